import Derived.Test.YtophnlmdcidolaaDoorS3
set_option linter.all false
namespace Go.Proofs.YtophnlmdcidolaaDoor
open Go Go.Am
set_option maxHeartbeats 8000000
set_option maxRecDepth 100000

/-- what any byte does -/
def Took (s s' : Dst) (b : Nat) : Prop :=
  (s.lf = 0 ∧ Began s s' b) ∨
  (1 < s.lf ∧ s'.lf = s.lf - 1 ∧ s'.bg = s.bg ∧ s'.out = s.out ∧ s'.bad = s.bad) ∨
  (s.lf = 1 ∧ s'.lf = 0 ∧ (∃ v, s'.out = s.out ++ [(v, s.bg)]) ∧ s'.bad = s.bad) ∨
  (0 < s.lf ∧ ∃ s1 v, s1.pl = s.pl ∧ s1.out = s.out ++ [(v, s.bg)] ∧ s1.bad.length = s.bad.length + 1 ∧ Began s1 s' b)

theorem f40_tr {σ : AHeap} {D : Nat} {s : Dst} (b : Nat) (hb : b < 256) (h : OwnD σ D s) (hlf : s.lf ≤ 3) (hn : s.out.length + 1 ≤ 1000000) (hbn : s.bad.length + 1 ≤ 1000000) :
    Tr Tryd.prog 40 [.ptr D 0, .int .u8 (b : Nat)] σ fun r σ' => r = .tuple [] ∧ ∃ s', OwnD σ' D s' ∧ Fr σ D s σ' s' ∧ s'.u = s.u ∧ s'.pl = s.pl ∧ Took s s' b := by
  have hd := h.d
  unfold cellsOf at hd
  refine sk_body (m := 75) Tryd.func40 rfl (by decide) rfl ?_
  by_cases h0 : s.lf = 0
  · have c0 : decide ((s.lf : Int) > 0) = false := decide_eq_false (by omega)
    have c1 : ((s.lf : Int) == 0) = true := by simp; omega
    repeat (first
      | refine sk_seq ?_
      | refine sk_region ?_
      | refine sk_ops_nil ?_
      | refine sk_draw_nil ?_
      | refine sk_block ?_
      | refine sk_blk ?_
      | refine sk_skip ?_
      | refine sk_exit rfl ?_
      | refine sk_draw (id := 8) [0, 1, 2, 3, 4, 5, 6, 7, 8, 9] mixed (by kernel_rfl) ?_
      | ((first | (apply sk_r; rfl; rfl) | (apply sk_w; rfl; rfl) | (apply sk_i; rfl) | (apply sk_g; rfl; rfl) | (apply sk_dr; rfl; rfl; rfl) | (apply sk_dg; rfl; rfl; rfl; rfl; rfl) | apply drd_i); (simp only [go_sem, Nat.reduceLT, Nat.reduceLeDiff, Nat.reduceEqDiff, Nat.reduceAdd, Nat.reduceSub, Nat.reduceMul, reduceIte, reduceCtorEq, hd, c0, c1] <;> rfl); (first | refine sk_id ?_ | refine cs_t ?_ | refine cs_f ?_ | refine gs_t rfl ?_ | refine gs_f rfl ?_ | ((repeat (first | exact trivial | ((first | (apply redos_r; rfl; rfl) | (apply redos_g; rfl; rfl; rfl; rfl)); (simp only [go_sem, Nat.reduceLT, Nat.reduceLeDiff, Nat.reduceEqDiff, Nat.reduceAdd, Nat.reduceSub, Nat.reduceMul, reduceIte, reduceCtorEq, hd, c0, c1] <;> rfl)) | (apply redos_s; rfl; rfl; rfl; (simp only [go_sem, Nat.reduceLT, Nat.reduceLeDiff, Nat.reduceEqDiff, Nat.reduceAdd, Nat.reduceSub, Nat.reduceMul, reduceIte, reduceCtorEq, hd, c0, c1] <;> rfl)))); refine sk_id ?_)))
      | ((first | (apply sk_c; rfl; rfl) | (apply sk_dnc (i := 9) (fl := []); rfl; rfl; decide +kernel; rfl)); (simp only [go_sem, Nat.reduceLT, Nat.reduceLeDiff, Nat.reduceEqDiff, Nat.reduceAdd, Nat.reduceSub, Nat.reduceMul, reduceIte, reduceCtorEq, hd, c0, c1] <;> rfl); (first
          | (refine (f62_tr b hb h h0 (by omega) (by omega)).mono ?_; rintro _ τ ⟨rfl, s', t1, t2, t3, t4, t5⟩)); (first | refine sk_id ?_ | (refine ⟨?_, ?_⟩; (repeat (first | exact trivial | ((first | (apply redos_r; rfl; rfl) | (apply redos_g; rfl; rfl; rfl; rfl)); (simp only [go_sem, Nat.reduceLT, Nat.reduceLeDiff, Nat.reduceEqDiff, Nat.reduceAdd, Nat.reduceSub, Nat.reduceMul, reduceIte, reduceCtorEq, hd, c0, c1] <;> rfl)) | (apply redos_s; rfl; rfl; rfl; (simp only [go_sem, Nat.reduceLT, Nat.reduceLeDiff, Nat.reduceEqDiff, Nat.reduceAdd, Nat.reduceSub, Nat.reduceMul, reduceIte, reduceCtorEq, hd, c0, c1] <;> rfl)))); refine sk_id ?_))))
    exact sk_ret ⟨_, (by first | (simp only [aRet, Tryd.results40, aResults, aResult, go_sem, Nat.reduceLT, Nat.reduceLeDiff, Nat.reduceEqDiff, Nat.reduceAdd, Nat.reduceSub, Nat.reduceMul, reduceIte, reduceCtorEq] <;> rfl) | fail), rfl, s', t1, t2, t3, t4, .inl ⟨h0, t5⟩⟩
  have c0 : decide ((s.lf : Int) > 0) = true := decide_eq_true (by omega)
  by_cases hw : (b : Int) < s.lo ∨ (b : Int) > s.hi
  · by_cases hlo : (b : Int) < s.lo
    · have c1 : decide ((b : Int) < s.lo) = true := decide_eq_true hlo
      repeat (first
        | refine sk_seq ?_
        | refine sk_region ?_
        | refine sk_ops_nil ?_
        | refine sk_draw_nil ?_
        | refine sk_block ?_
        | refine sk_blk ?_
        | refine sk_skip ?_
        | refine sk_exit rfl ?_
        | refine sk_draw (id := 8) [0, 1, 2, 3, 4, 5, 6, 7, 8, 9] mixed (by kernel_rfl) ?_
        | ((first | (apply sk_r; rfl; rfl) | (apply sk_w; rfl; rfl) | (apply sk_i; rfl) | (apply sk_g; rfl; rfl) | (apply sk_dr; rfl; rfl; rfl) | (apply sk_dg; rfl; rfl; rfl; rfl; rfl) | apply drd_i); (simp only [go_sem, Nat.reduceLT, Nat.reduceLeDiff, Nat.reduceEqDiff, Nat.reduceAdd, Nat.reduceSub, Nat.reduceMul, reduceIte, reduceCtorEq, hd, c0, c1] <;> rfl); (first | refine sk_id ?_ | refine cs_t ?_ | refine cs_f ?_ | refine gs_t rfl ?_ | refine gs_f rfl ?_ | ((repeat (first | exact trivial | ((first | (apply redos_r; rfl; rfl) | (apply redos_g; rfl; rfl; rfl; rfl)); (simp only [go_sem, Nat.reduceLT, Nat.reduceLeDiff, Nat.reduceEqDiff, Nat.reduceAdd, Nat.reduceSub, Nat.reduceMul, reduceIte, reduceCtorEq, hd, c0, c1] <;> rfl)) | (apply redos_s; rfl; rfl; rfl; (simp only [go_sem, Nat.reduceLT, Nat.reduceLeDiff, Nat.reduceEqDiff, Nat.reduceAdd, Nat.reduceSub, Nat.reduceMul, reduceIte, reduceCtorEq, hd, c0, c1] <;> rfl)))); refine sk_id ?_)))
        | ((first | (apply sk_c; rfl; rfl) | (apply sk_dnc (i := 9) (fl := []); rfl; rfl; decide +kernel; rfl)); (simp only [go_sem, Nat.reduceLT, Nat.reduceLeDiff, Nat.reduceEqDiff, Nat.reduceAdd, Nat.reduceSub, Nat.reduceMul, reduceIte, reduceCtorEq, hd, c0, c1] <;> rfl); (first
            | (refine (f43_tr h (by omega) (by omega)).mono ?_; rintro _ τ ⟨rfl, ob, bb, t1, t2⟩)); (first | refine sk_id ?_ | (refine ⟨?_, ?_⟩; (repeat (first | exact trivial | ((first | (apply redos_r; rfl; rfl) | (apply redos_g; rfl; rfl; rfl; rfl)); (simp only [go_sem, Nat.reduceLT, Nat.reduceLeDiff, Nat.reduceEqDiff, Nat.reduceAdd, Nat.reduceSub, Nat.reduceMul, reduceIte, reduceCtorEq, hd, c0, c1] <;> rfl)) | (apply redos_s; rfl; rfl; rfl; (simp only [go_sem, Nat.reduceLT, Nat.reduceLeDiff, Nat.reduceEqDiff, Nat.reduceAdd, Nat.reduceSub, Nat.reduceMul, reduceIte, reduceCtorEq, hd, c0, c1] <;> rfl)))); refine sk_id ?_))))
      have hd2 := t1.d
      unfold cellsOf at hd2
      have c3 : (((0 : Nat) : Int) == 0) = true := rfl
      repeat (first
        | refine sk_seq ?_
        | refine sk_region ?_
        | refine sk_ops_nil ?_
        | refine sk_draw_nil ?_
        | refine sk_block ?_
        | refine sk_blk ?_
        | refine sk_skip ?_
        | refine sk_exit rfl ?_
        | refine sk_draw (id := 8) [0, 1, 2, 3, 4, 5, 6, 7, 8, 9] mixed (by kernel_rfl) ?_
        | ((first | (apply sk_r; rfl; rfl) | (apply sk_w; rfl; rfl) | (apply sk_i; rfl) | (apply sk_g; rfl; rfl) | (apply sk_dr; rfl; rfl; rfl) | (apply sk_dg; rfl; rfl; rfl; rfl; rfl) | apply drd_i); (simp only [go_sem, Nat.reduceLT, Nat.reduceLeDiff, Nat.reduceEqDiff, Nat.reduceAdd, Nat.reduceSub, Nat.reduceMul, reduceIte, reduceCtorEq, hd2, c3] <;> rfl); (first | refine sk_id ?_ | refine cs_t ?_ | refine cs_f ?_ | refine gs_t rfl ?_ | refine gs_f rfl ?_ | ((repeat (first | exact trivial | ((first | (apply redos_r; rfl; rfl) | (apply redos_g; rfl; rfl; rfl; rfl)); (simp only [go_sem, Nat.reduceLT, Nat.reduceLeDiff, Nat.reduceEqDiff, Nat.reduceAdd, Nat.reduceSub, Nat.reduceMul, reduceIte, reduceCtorEq, hd2, c3] <;> rfl)) | (apply redos_s; rfl; rfl; rfl; (simp only [go_sem, Nat.reduceLT, Nat.reduceLeDiff, Nat.reduceEqDiff, Nat.reduceAdd, Nat.reduceSub, Nat.reduceMul, reduceIte, reduceCtorEq, hd2, c3] <;> rfl)))); refine sk_id ?_)))
        | ((first | (apply sk_c; rfl; rfl) | (apply sk_dnc (i := 9) (fl := []); rfl; rfl; decide +kernel; rfl)); (simp only [go_sem, Nat.reduceLT, Nat.reduceLeDiff, Nat.reduceEqDiff, Nat.reduceAdd, Nat.reduceSub, Nat.reduceMul, reduceIte, reduceCtorEq, hd2, c3] <;> rfl); (first
            | (refine (f62_tr b hb t1 rfl (by simp only [List.length_append, List.length_cons, List.length_nil]; omega) (by simp only [List.length_append, List.length_cons, List.length_nil]; omega)).mono ?_; rintro _ τ2 ⟨rfl, s', v1, v2, v3, v4, v5⟩)); (first | refine sk_id ?_ | (refine ⟨?_, ?_⟩; (repeat (first | exact trivial | ((first | (apply redos_r; rfl; rfl) | (apply redos_g; rfl; rfl; rfl; rfl)); (simp only [go_sem, Nat.reduceLT, Nat.reduceLeDiff, Nat.reduceEqDiff, Nat.reduceAdd, Nat.reduceSub, Nat.reduceMul, reduceIte, reduceCtorEq, hd2, c3] <;> rfl)) | (apply redos_s; rfl; rfl; rfl; (simp only [go_sem, Nat.reduceLT, Nat.reduceLeDiff, Nat.reduceEqDiff, Nat.reduceAdd, Nat.reduceSub, Nat.reduceMul, reduceIte, reduceCtorEq, hd2, c3] <;> rfl)))); refine sk_id ?_))))
      exact sk_ret ⟨_, (by first | (simp only [aRet, Tryd.results40, aResults, aResult, go_sem, Nat.reduceLT, Nat.reduceLeDiff, Nat.reduceEqDiff, Nat.reduceAdd, Nat.reduceSub, Nat.reduceMul, reduceIte, reduceCtorEq] <;> rfl) | fail), rfl, s', v1, t2.trans v2, v3, v4, .inr (.inr (.inr ⟨by omega, { s with out := s.out ++ [(65533, s.bg)], bad := s.bad ++ [s.bg], lf := 0, ob := ob, bb := bb }, 65533, rfl, rfl, by simp, v5⟩))⟩
    · have c1 : decide ((b : Int) < s.lo) = false := decide_eq_false hlo
      have c2 : decide ((b : Int) > s.hi) = true := decide_eq_true (by omega)
      repeat (first
        | refine sk_seq ?_
        | refine sk_region ?_
        | refine sk_ops_nil ?_
        | refine sk_draw_nil ?_
        | refine sk_block ?_
        | refine sk_blk ?_
        | refine sk_skip ?_
        | refine sk_exit rfl ?_
        | refine sk_draw (id := 8) [0, 1, 2, 3, 4, 5, 6, 7, 8, 9] mixed (by kernel_rfl) ?_
        | ((first | (apply sk_r; rfl; rfl) | (apply sk_w; rfl; rfl) | (apply sk_i; rfl) | (apply sk_g; rfl; rfl) | (apply sk_dr; rfl; rfl; rfl) | (apply sk_dg; rfl; rfl; rfl; rfl; rfl) | apply drd_i); (simp only [go_sem, Nat.reduceLT, Nat.reduceLeDiff, Nat.reduceEqDiff, Nat.reduceAdd, Nat.reduceSub, Nat.reduceMul, reduceIte, reduceCtorEq, hd, c0, c1, c2] <;> rfl); (first | refine sk_id ?_ | refine cs_t ?_ | refine cs_f ?_ | refine gs_t rfl ?_ | refine gs_f rfl ?_ | ((repeat (first | exact trivial | ((first | (apply redos_r; rfl; rfl) | (apply redos_g; rfl; rfl; rfl; rfl)); (simp only [go_sem, Nat.reduceLT, Nat.reduceLeDiff, Nat.reduceEqDiff, Nat.reduceAdd, Nat.reduceSub, Nat.reduceMul, reduceIte, reduceCtorEq, hd, c0, c1, c2] <;> rfl)) | (apply redos_s; rfl; rfl; rfl; (simp only [go_sem, Nat.reduceLT, Nat.reduceLeDiff, Nat.reduceEqDiff, Nat.reduceAdd, Nat.reduceSub, Nat.reduceMul, reduceIte, reduceCtorEq, hd, c0, c1, c2] <;> rfl)))); refine sk_id ?_)))
        | ((first | (apply sk_c; rfl; rfl) | (apply sk_dnc (i := 9) (fl := []); rfl; rfl; decide +kernel; rfl)); (simp only [go_sem, Nat.reduceLT, Nat.reduceLeDiff, Nat.reduceEqDiff, Nat.reduceAdd, Nat.reduceSub, Nat.reduceMul, reduceIte, reduceCtorEq, hd, c0, c1, c2] <;> rfl); (first
            | (refine (f43_tr h (by omega) (by omega)).mono ?_; rintro _ τ ⟨rfl, ob, bb, t1, t2⟩)); (first | refine sk_id ?_ | (refine ⟨?_, ?_⟩; (repeat (first | exact trivial | ((first | (apply redos_r; rfl; rfl) | (apply redos_g; rfl; rfl; rfl; rfl)); (simp only [go_sem, Nat.reduceLT, Nat.reduceLeDiff, Nat.reduceEqDiff, Nat.reduceAdd, Nat.reduceSub, Nat.reduceMul, reduceIte, reduceCtorEq, hd, c0, c1, c2] <;> rfl)) | (apply redos_s; rfl; rfl; rfl; (simp only [go_sem, Nat.reduceLT, Nat.reduceLeDiff, Nat.reduceEqDiff, Nat.reduceAdd, Nat.reduceSub, Nat.reduceMul, reduceIte, reduceCtorEq, hd, c0, c1, c2] <;> rfl)))); refine sk_id ?_))))
      have hd2 := t1.d
      unfold cellsOf at hd2
      have c3 : (((0 : Nat) : Int) == 0) = true := rfl
      repeat (first
        | refine sk_seq ?_
        | refine sk_region ?_
        | refine sk_ops_nil ?_
        | refine sk_draw_nil ?_
        | refine sk_block ?_
        | refine sk_blk ?_
        | refine sk_skip ?_
        | refine sk_exit rfl ?_
        | refine sk_draw (id := 8) [0, 1, 2, 3, 4, 5, 6, 7, 8, 9] mixed (by kernel_rfl) ?_
        | ((first | (apply sk_r; rfl; rfl) | (apply sk_w; rfl; rfl) | (apply sk_i; rfl) | (apply sk_g; rfl; rfl) | (apply sk_dr; rfl; rfl; rfl) | (apply sk_dg; rfl; rfl; rfl; rfl; rfl) | apply drd_i); (simp only [go_sem, Nat.reduceLT, Nat.reduceLeDiff, Nat.reduceEqDiff, Nat.reduceAdd, Nat.reduceSub, Nat.reduceMul, reduceIte, reduceCtorEq, hd2, c3] <;> rfl); (first | refine sk_id ?_ | refine cs_t ?_ | refine cs_f ?_ | refine gs_t rfl ?_ | refine gs_f rfl ?_ | ((repeat (first | exact trivial | ((first | (apply redos_r; rfl; rfl) | (apply redos_g; rfl; rfl; rfl; rfl)); (simp only [go_sem, Nat.reduceLT, Nat.reduceLeDiff, Nat.reduceEqDiff, Nat.reduceAdd, Nat.reduceSub, Nat.reduceMul, reduceIte, reduceCtorEq, hd2, c3] <;> rfl)) | (apply redos_s; rfl; rfl; rfl; (simp only [go_sem, Nat.reduceLT, Nat.reduceLeDiff, Nat.reduceEqDiff, Nat.reduceAdd, Nat.reduceSub, Nat.reduceMul, reduceIte, reduceCtorEq, hd2, c3] <;> rfl)))); refine sk_id ?_)))
        | ((first | (apply sk_c; rfl; rfl) | (apply sk_dnc (i := 9) (fl := []); rfl; rfl; decide +kernel; rfl)); (simp only [go_sem, Nat.reduceLT, Nat.reduceLeDiff, Nat.reduceEqDiff, Nat.reduceAdd, Nat.reduceSub, Nat.reduceMul, reduceIte, reduceCtorEq, hd2, c3] <;> rfl); (first
            | (refine (f62_tr b hb t1 rfl (by simp only [List.length_append, List.length_cons, List.length_nil]; omega) (by simp only [List.length_append, List.length_cons, List.length_nil]; omega)).mono ?_; rintro _ τ2 ⟨rfl, s', v1, v2, v3, v4, v5⟩)); (first | refine sk_id ?_ | (refine ⟨?_, ?_⟩; (repeat (first | exact trivial | ((first | (apply redos_r; rfl; rfl) | (apply redos_g; rfl; rfl; rfl; rfl)); (simp only [go_sem, Nat.reduceLT, Nat.reduceLeDiff, Nat.reduceEqDiff, Nat.reduceAdd, Nat.reduceSub, Nat.reduceMul, reduceIte, reduceCtorEq, hd2, c3] <;> rfl)) | (apply redos_s; rfl; rfl; rfl; (simp only [go_sem, Nat.reduceLT, Nat.reduceLeDiff, Nat.reduceEqDiff, Nat.reduceAdd, Nat.reduceSub, Nat.reduceMul, reduceIte, reduceCtorEq, hd2, c3] <;> rfl)))); refine sk_id ?_))))
      exact sk_ret ⟨_, (by first | (simp only [aRet, Tryd.results40, aResults, aResult, go_sem, Nat.reduceLT, Nat.reduceLeDiff, Nat.reduceEqDiff, Nat.reduceAdd, Nat.reduceSub, Nat.reduceMul, reduceIte, reduceCtorEq] <;> rfl) | fail), rfl, s', v1, t2.trans v2, v3, v4, .inr (.inr (.inr ⟨by omega, { s with out := s.out ++ [(65533, s.bg)], bad := s.bad ++ [s.bg], lf := 0, ob := ob, bb := bb }, 65533, rfl, rfl, by simp, v5⟩))⟩
  · have c1 : decide ((b : Int) < s.lo) = false := decide_eq_false (by omega)
    have c2 : decide ((b : Int) > s.hi) = false := decide_eq_false (by omega)
    have c3 : ((s.lf : Int) == 0) = false := by simp; omega
    have e1 : IntKind.wrap .i64 ((s.lf : Int) - 1) = ((s.lf - 1 : Nat) : Int) := by rw [wrap_i64 (by omega) (by omega)]; omega
    by_cases hl1 : s.lf = 1
    · have c4 : (((s.lf - 1 : Nat) : Int) == 0) = true := by simp; omega
      repeat (first
        | refine sk_seq ?_
        | refine sk_region ?_
        | refine sk_ops_nil ?_
        | refine sk_draw_nil ?_
        | refine sk_block ?_
        | refine sk_blk ?_
        | refine sk_skip ?_
        | refine sk_exit rfl ?_
        | refine sk_draw (id := 8) [0, 1, 2, 3, 4, 5, 6, 7, 8, 9] mixed (by kernel_rfl) ?_
        | ((first | (apply sk_r; rfl; rfl) | (apply sk_w; rfl; rfl) | (apply sk_i; rfl) | (apply sk_g; rfl; rfl) | (apply sk_dr; rfl; rfl; rfl) | (apply sk_dg; rfl; rfl; rfl; rfl; rfl) | apply drd_i); (simp only [go_sem, Nat.reduceLT, Nat.reduceLeDiff, Nat.reduceEqDiff, Nat.reduceAdd, Nat.reduceSub, Nat.reduceMul, reduceIte, reduceCtorEq, hd, c0, c1, c2, c3, e1, c4] <;> rfl); (first | refine sk_id ?_ | refine cs_t ?_ | refine cs_f ?_ | refine gs_t rfl ?_ | refine gs_f rfl ?_ | ((repeat (first | exact trivial | ((first | (apply redos_r; rfl; rfl) | (apply redos_g; rfl; rfl; rfl; rfl)); (simp only [go_sem, Nat.reduceLT, Nat.reduceLeDiff, Nat.reduceEqDiff, Nat.reduceAdd, Nat.reduceSub, Nat.reduceMul, reduceIte, reduceCtorEq, hd, c0, c1, c2, c3, e1, c4] <;> rfl)) | (apply redos_s; rfl; rfl; rfl; (simp only [go_sem, Nat.reduceLT, Nat.reduceLeDiff, Nat.reduceEqDiff, Nat.reduceAdd, Nat.reduceSub, Nat.reduceMul, reduceIte, reduceCtorEq, hd, c0, c1, c2, c3, e1, c4] <;> rfl)))); refine sk_id ?_)))
        | ((first | (apply sk_c; rfl; rfl) | (apply sk_dnc (i := 9) (fl := []); rfl; rfl; decide +kernel; rfl)); (simp only [go_sem, Nat.reduceLT, Nat.reduceLeDiff, Nat.reduceEqDiff, Nat.reduceAdd, Nat.reduceSub, Nat.reduceMul, reduceIte, reduceCtorEq, hd, c0, c1, c2, c3, e1, c4] <;> rfl); (first
            | (refine (f41_tr _ s.bg (own_st h s.pl s.bg (s.lf - 1) _ 128 191).1 (by show s.out.length ≤ 1000000; omega)).mono ?_; rintro _ τ ⟨rfl, ob, t1, t2⟩)); (first | refine sk_id ?_ | (refine ⟨?_, ?_⟩; (repeat (first | exact trivial | ((first | (apply redos_r; rfl; rfl) | (apply redos_g; rfl; rfl; rfl; rfl)); (simp only [go_sem, Nat.reduceLT, Nat.reduceLeDiff, Nat.reduceEqDiff, Nat.reduceAdd, Nat.reduceSub, Nat.reduceMul, reduceIte, reduceCtorEq, hd, c0, c1, c2, c3, e1, c4] <;> rfl)) | (apply redos_s; rfl; rfl; rfl; (simp only [go_sem, Nat.reduceLT, Nat.reduceLeDiff, Nat.reduceEqDiff, Nat.reduceAdd, Nat.reduceSub, Nat.reduceMul, reduceIte, reduceCtorEq, hd, c0, c1, c2, c3, e1, c4] <;> rfl)))); refine sk_id ?_))))
      exact sk_end ⟨_, (by first | (simp only [aRet, Tryd.results40, aResults, aResult, go_sem, Nat.reduceLT, Nat.reduceLeDiff, Nat.reduceEqDiff, Nat.reduceAdd, Nat.reduceSub, Nat.reduceMul, reduceIte, reduceCtorEq] <;> rfl) | fail), rfl, _, t1, (own_st h s.pl s.bg (s.lf - 1) _ 128 191).2.trans t2, rfl, rfl, .inr (.inr (.inl ⟨hl1, by show s.lf - 1 = 0; omega, ⟨_, rfl⟩, rfl⟩))⟩
    · have c4 : (((s.lf - 1 : Nat) : Int) == 0) = false := by simp; omega
      repeat (first
        | refine sk_seq ?_
        | refine sk_region ?_
        | refine sk_ops_nil ?_
        | refine sk_draw_nil ?_
        | refine sk_block ?_
        | refine sk_blk ?_
        | refine sk_skip ?_
        | refine sk_exit rfl ?_
        | refine sk_draw (id := 8) [0, 1, 2, 3, 4, 5, 6, 7, 8, 9] mixed (by kernel_rfl) ?_
        | ((first | (apply sk_r; rfl; rfl) | (apply sk_w; rfl; rfl) | (apply sk_i; rfl) | (apply sk_g; rfl; rfl) | (apply sk_dr; rfl; rfl; rfl) | (apply sk_dg; rfl; rfl; rfl; rfl; rfl) | apply drd_i); (simp only [go_sem, Nat.reduceLT, Nat.reduceLeDiff, Nat.reduceEqDiff, Nat.reduceAdd, Nat.reduceSub, Nat.reduceMul, reduceIte, reduceCtorEq, hd, c0, c1, c2, c3, e1, c4] <;> rfl); (first | refine sk_id ?_ | refine cs_t ?_ | refine cs_f ?_ | refine gs_t rfl ?_ | refine gs_f rfl ?_ | ((repeat (first | exact trivial | ((first | (apply redos_r; rfl; rfl) | (apply redos_g; rfl; rfl; rfl; rfl)); (simp only [go_sem, Nat.reduceLT, Nat.reduceLeDiff, Nat.reduceEqDiff, Nat.reduceAdd, Nat.reduceSub, Nat.reduceMul, reduceIte, reduceCtorEq, hd, c0, c1, c2, c3, e1, c4] <;> rfl)) | (apply redos_s; rfl; rfl; rfl; (simp only [go_sem, Nat.reduceLT, Nat.reduceLeDiff, Nat.reduceEqDiff, Nat.reduceAdd, Nat.reduceSub, Nat.reduceMul, reduceIte, reduceCtorEq, hd, c0, c1, c2, c3, e1, c4] <;> rfl)))); refine sk_id ?_))))
      exact sk_end ⟨_, (by first | (simp only [aRet, Tryd.results40, aResults, aResult, go_sem, Nat.reduceLT, Nat.reduceLeDiff, Nat.reduceEqDiff, Nat.reduceAdd, Nat.reduceSub, Nat.reduceMul, reduceIte, reduceCtorEq] <;> rfl) | fail), rfl, _, (own_st h s.pl s.bg (s.lf - 1) _ 128 191).1, (own_st h s.pl s.bg (s.lf - 1) _ 128 191).2, rfl, rfl, .inr (.inl ⟨by omega, rfl, rfl, rfl, rfl⟩)⟩
end Go.Proofs.YtophnlmdcidolaaDoor
namespace Go.Am
/-- what holds of the decoder ahead of byte i -/
structure Inv (u : Bool) (s : Dst) (i : Nat) : Prop where
  u : s.u = u
  pl : s.pl = i
  lf : s.lf ≤ 3
  bg : 0 < s.lf → s.bg < i
  rise : Rise s.out (if s.lf = 0 then i else s.bg)
  bad : s.bad.length ≤ s.out.length
theorem Inv.len {u : Bool} {s : Dst} {i : Nat} (h : Inv u s i) : s.out.length ≤ i := by
  have := rise_len _ rfl h.rise
  by_cases e : s.lf = 0
  · rw [if_pos e] at this; exact this
  · rw [if_neg e] at this
    have := h.bg (by omega)
    omega
end Go.Am
namespace Go.Proofs.YtophnlmdcidolaaDoor
open Go Go.Am
theorem began_inv {s s' : Dst} {i b : Nat} (e : s.pl = i) (h : Began s s' b) (hr : Rise s.out i) (hb : s.bad.length ≤ s.out.length) :
    s'.lf ≤ 3 ∧ (0 < s'.lf → s'.bg < i + 1) ∧ Rise s'.out (if s'.lf = 0 then i + 1 else s'.bg) ∧ s'.bad.length ≤ s'.out.length := by
  rcases h with ⟨_, h1, h2, h3⟩ | ⟨_, h1, ⟨v, h2⟩, h3⟩ | ⟨_, h1, h2, h3, h4, h5⟩
  · rw [h1, h2, h3, if_pos rfl, e]
    refine ⟨by omega, fun h => by omega, rise_app hr (Nat.le_refl _) (by omega) _, by simp; omega⟩
  · rw [h1, h2, h3, if_pos rfl, e]
    refine ⟨by omega, fun h => by omega, rise_app hr (Nat.le_refl _) (by omega) _, by simp; omega⟩
  · rw [if_neg (by omega), h3, h4, h5, e]
    exact ⟨h2, fun _ => by omega, hr, hb⟩
theorem took_inv {u : Bool} {s s' : Dst} {i b : Nat} (h : Inv u s i) (e1 : s'.u = s.u) (e2 : s'.pl = s.pl) (t : Took s s' b) : Inv u { s' with pl := i + 1 } (i + 1) := by
  have key : s'.lf ≤ 3 ∧ (0 < s'.lf → s'.bg < i + 1) ∧ Rise s'.out (if s'.lf = 0 then i + 1 else s'.bg) ∧ s'.bad.length ≤ s'.out.length := by
    have hr := h.rise
    have hbg := h.bg
    have hlf := h.lf
    rcases t with ⟨t0, t1⟩ | ⟨t0, t1, t2, t3, t4⟩ | ⟨t0, t1, ⟨v, t2⟩, t3⟩ | ⟨t0, s1, v, t1, t2, t3, t4⟩
    · rw [if_pos t0] at hr
      exact began_inv h.pl t1 hr h.bad
    · rw [if_neg (by omega)] at hr
      rw [if_neg (by omega), t1, t2, t3, t4]
      exact ⟨by omega, fun _ => by have := hbg (by omega); omega, hr, h.bad⟩
    · rw [if_neg (by omega)] at hr
      have := hbg (by omega)
      rw [t1, if_pos rfl, t2, t3]
      refine ⟨by omega, fun h => by omega, rise_app hr (Nat.le_refl _) (by omega) _, ?_⟩
      have := h.bad
      simp only [List.length_append, List.length_cons, List.length_nil]
      omega
    · rw [if_neg (by omega)] at hr
      have := hbg t0
      refine began_inv (t1.trans h.pl) t4 ?_ ?_
      · rw [t2]; exact rise_app hr (Nat.le_refl _) this _
      · rw [t2, t3]
        have := h.bad
        simp only [List.length_append, List.length_cons, List.length_nil]
        omega
  exact ⟨e1.trans h.u, rfl, key.1, key.2.1, key.2.2.1, key.2.2.2⟩
/-- bytes below 80 as scalars -/
def asMap : Nat → List Nat → List (Int × Nat)
  | _, [] => []
  | i, b :: l => ((b : Int), i) :: asMap (i + 1) l
theorem asMap_app : ∀ (l : List Nat) (i b : Nat), asMap i (l ++ [b]) = asMap i l ++ [((b : Int), i + l.length)]
  | [], i, b => rfl
  | x :: l, i, b => by simp only [List.cons_append, asMap, asMap_app l (i + 1) b, List.length_cons]; rw [show i + 1 + l.length = i + (l.length + 1) by omega]
/-- nothing but such bytes so far -/
structure Plain (s : Dst) (l : List Nat) : Prop where
  lf : s.lf = 0
  out : s.out = asMap 0 l
  bad : s.bad = []
theorem took_plain {s s' : Dst} {l : List Nat} {b : Nat} (hp : Plain s l) (e : s.pl = l.length) (hb : b < 128) (t : Took s s' b) (pl : Nat) : Plain { s' with pl := pl } (l ++ [b]) := by
  have h0 := hp.lf
  rcases t with ⟨_, h⟩ | ⟨t0, _⟩ | ⟨t0, _⟩ | ⟨t0, _⟩
  · rcases h with ⟨_, h1, h2, h3⟩ | ⟨h1, _⟩ | ⟨h1, _⟩
    · refine ⟨h1, ?_, h3.trans hp.bad⟩
      show s'.out = _
      rw [h2, hp.out, asMap_app, e, Nat.zero_add]
    · omega
    · omega
  · omega
  · omega
  · omega
end Go.Proofs.YtophnlmdcidolaaDoor
