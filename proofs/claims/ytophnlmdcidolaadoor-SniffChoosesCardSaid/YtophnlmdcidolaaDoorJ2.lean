import Derived.Test.YtophnlmdcidolaaDoorJ
import Derived.Test.YtophnlmdcidolaaDoorD
set_option linter.all false
namespace Go.Proofs.YtophnlmdcidolaaDoor
open Go Go.Am
set_option maxHeartbeats 8000000
set_option maxRecDepth 100000

theorem in_slash (c : Nat) : isIn [9, 10, 12, 13, 32, 47] c = (isIn [9, 10, 12, 13, 32] c || decide (c = 47)) := by
  rw [Bool.eq_iff_iff, Bool.or_eq_true, isIn_iff, isIn_iff, decide_eq_true_eq]
  simp
  omega
theorem in_name (c : Nat) : isIn [61, 47, 62, 9, 10, 12, 13, 32] c = (decide (c = 61) || decide (c = 47) || decide (c = 62) || isIn [9, 10, 12, 13, 32] c) := by
  rw [Bool.eq_iff_iff, Bool.or_eq_true, Bool.or_eq_true, Bool.or_eq_true, isIn_iff, isIn_iff, decide_eq_true_eq, decide_eq_true_eq, decide_eq_true_eq]
  simp
  omega

theorem in_unq (c : Nat) : (!isIn [62, 9, 10, 12, 13, 32] c) = (!(decide (c = 62) || isIn [9, 10, 12, 13, 32] c)) := by
  congr 1
  rw [Bool.eq_iff_iff, Bool.or_eq_true, isIn_iff, isIn_iff, decide_eq_true_eq]
  simp

theorem f23_tr (k : Nat) (d : List Nat) (hd : ∀ c ∈ d, c < 256) (hk : k ≤ d.length) (hl : d.length ≤ 1000000) (σ : AHeap) :
    Tr Tryd.prog 23 [.str d, .int .i64 k] σ fun v σ' => v = attrAV4 (attrOf d k) ∧ σ' = σ := by
  refine sk_body (m := 210) Tryd.func23 rfl (by decide) rfl ?_
  have z1 : decide ((k : Int) < 0) = false := by simp
  have z2 : decide ((k : Int) > d.length) = false := by simp; omega
  repeat (first
    | refine sk_seq ?_
    | refine sk_region ?_
    | refine sk_ops_nil ?_
    | refine sk_draw_nil ?_
    | refine sk_block ?_
    | refine sk_blk ?_
    | refine sk_skip ?_
    | refine sk_exit rfl ?_
    | refine sk_draw (id := 28) [0, 1, 2, 3, 4, 5, 6] mixed (by kernel_rfl) ?_
    | ((first | (apply sk_r; rfl; rfl) | (apply sk_w; rfl; rfl) | (apply sk_i; rfl) | (apply sk_g; rfl; rfl) | (apply sk_dr; rfl; rfl; rfl) | (apply sk_dg; rfl; rfl; rfl; rfl; rfl) | apply drd_i); (simp only [go_sem, Nat.reduceLT, Nat.reduceLeDiff, Nat.reduceEqDiff, Nat.reduceAdd, Nat.reduceSub, Nat.reduceMul, reduceIte, reduceCtorEq, z1, z2] <;> rfl); (first | refine sk_id ?_ | refine cs_t ?_ | refine cs_f ?_ | refine gs_t rfl ?_ | refine gs_f rfl ?_)))
  refine sk_cut (fun fr σ' => σ' = σ ∧ fget fr 0 = .str d ∧ fget fr 1 = .int .i64 (run (isIn [9, 10, 12, 13, 32, 47]) d k : Nat)) ?_ ?_
  · refine sk_loop (fun m fr σ' => ∃ j, m = d.length - j ∧ run (isIn [9, 10, 12, 13, 32, 47]) d j = run (isIn [9, 10, 12, 13, 32, 47]) d k ∧ fget fr 0 = .str d ∧ fget fr 1 = .int .i64 (j : Nat) ∧ σ' = σ) _ ⟨k, rfl, rfl, (by first | (simp only [go_sem, Nat.reduceLT, Nat.reduceLeDiff, Nat.reduceEqDiff, Nat.reduceAdd, Nat.reduceSub, Nat.reduceMul, reduceIte, reduceCtorEq] <;> rfl) | fail), (by first | (simp only [go_sem, Nat.reduceLT, Nat.reduceLeDiff, Nat.reduceEqDiff, Nat.reduceAdd, Nat.reduceSub, Nat.reduceMul, reduceIte, reduceCtorEq] <;> rfl) | fail), rfl⟩ ?_
    rintro _ fr _ ⟨j, rfl, hr, h0, h1, rfl⟩
    by_cases hj : j < d.length
    · obtain ⟨c, hc⟩ := at_some hj
      have hc8 := hd c (at_mem hc)
      have e1 : decide ((j : Int) < d.length) = true := by simp; omega
      have e2 : (0 : Int) ≤ (j : Int) := by omega
      have e4 : IntKind.wrap .i64 ((j : Int) + 1) = ((j + 1 : Nat) : Int) := wrap_i64 (by omega) (by omega)
      cases hb : isIn [9, 10, 12, 13, 32] c
      · by_cases h47 : c = 47
        · have e5 : ((c : Int) == 47) = true := by simp; omega
          repeat (first
            | refine sk_seq ?_
            | refine sk_region ?_
            | refine sk_ops_nil ?_
            | refine sk_draw_nil ?_
            | refine sk_block ?_
            | refine sk_blk ?_
            | refine sk_skip ?_
            | refine sk_exit rfl ?_
            | refine sk_draw (id := 28) [0, 1, 2, 3, 4, 5, 6] mixed (by kernel_rfl) ?_
            | ((first | (apply sk_r; rfl; rfl) | (apply sk_w; rfl; rfl) | (apply sk_i; rfl) | (apply sk_g; rfl; rfl) | (apply sk_dr; rfl; rfl; rfl) | (apply sk_dg; rfl; rfl; rfl; rfl; rfl) | apply drd_i); (simp only [go_sem, Nat.reduceLT, Nat.reduceLeDiff, Nat.reduceEqDiff, Nat.reduceAdd, Nat.reduceSub, Nat.reduceMul, reduceIte, reduceCtorEq, h0, h1, e1, e2, e4, e5, hc, hb] <;> rfl); (first | refine sk_id ?_ | refine cs_t ?_ | refine cs_f ?_ | refine gs_t rfl ?_ | refine gs_f rfl ?_))
            | ((first | (apply sk_c; rfl; rfl)); (simp only [go_sem, Nat.reduceLT, Nat.reduceLeDiff, Nat.reduceEqDiff, Nat.reduceAdd, Nat.reduceSub, Nat.reduceMul, reduceIte, reduceCtorEq, h0, h1, e1, e2, e4, e5, hc, hb] <;> rfl); (first
                | (refine (f20_tr _ _).mono ?_; rintro _ _ ⟨rfl, rfl⟩)); refine sk_id ?_))
          exact sk_stop ⟨d.length - (j + 1), by omega, j + 1, rfl, (run_step hc (by rw [in_slash, h47]; simp)).symm.trans hr, (by first | (simp only [go_sem, Nat.reduceLT, Nat.reduceLeDiff, Nat.reduceEqDiff, Nat.reduceAdd, Nat.reduceSub, Nat.reduceMul, reduceIte, reduceCtorEq, h0] <;> rfl) | fail), (by first | (simp only [go_sem, Nat.reduceLT, Nat.reduceLeDiff, Nat.reduceEqDiff, Nat.reduceAdd, Nat.reduceSub, Nat.reduceMul, reduceIte, reduceCtorEq] <;> rfl) | fail), rfl⟩
        · have e5 : ((c : Int) == 47) = false := by simp; omega
          repeat (first
            | refine sk_seq ?_
            | refine sk_region ?_
            | refine sk_ops_nil ?_
            | refine sk_draw_nil ?_
            | refine sk_block ?_
            | refine sk_blk ?_
            | refine sk_skip ?_
            | refine sk_exit rfl ?_
            | refine sk_draw (id := 28) [0, 1, 2, 3, 4, 5, 6] mixed (by kernel_rfl) ?_
            | ((first | (apply sk_r; rfl; rfl) | (apply sk_w; rfl; rfl) | (apply sk_i; rfl) | (apply sk_g; rfl; rfl) | (apply sk_dr; rfl; rfl; rfl) | (apply sk_dg; rfl; rfl; rfl; rfl; rfl) | apply drd_i); (simp only [go_sem, Nat.reduceLT, Nat.reduceLeDiff, Nat.reduceEqDiff, Nat.reduceAdd, Nat.reduceSub, Nat.reduceMul, reduceIte, reduceCtorEq, h0, h1, e1, e2, e4, e5, hc, hb] <;> rfl); (first | refine sk_id ?_ | refine cs_t ?_ | refine cs_f ?_ | refine gs_t rfl ?_ | refine gs_f rfl ?_))
            | ((first | (apply sk_c; rfl; rfl)); (simp only [go_sem, Nat.reduceLT, Nat.reduceLeDiff, Nat.reduceEqDiff, Nat.reduceAdd, Nat.reduceSub, Nat.reduceMul, reduceIte, reduceCtorEq, h0, h1, e1, e2, e4, e5, hc, hb] <;> rfl); (first
                | (refine (f20_tr _ _).mono ?_; rintro _ _ ⟨rfl, rfl⟩)); refine sk_id ?_))
          exact sk_end ⟨rfl, (by first | (simp only [go_sem, Nat.reduceLT, Nat.reduceLeDiff, Nat.reduceEqDiff, Nat.reduceAdd, Nat.reduceSub, Nat.reduceMul, reduceIte, reduceCtorEq, h0] <;> rfl) | fail), by rw [← hr, run_stop hc (by rw [in_slash, hb]; simp [h47])]; exact (by first | (simp only [go_sem, Nat.reduceLT, Nat.reduceLeDiff, Nat.reduceEqDiff, Nat.reduceAdd, Nat.reduceSub, Nat.reduceMul, reduceIte, reduceCtorEq, h1] <;> rfl) | fail)⟩
      · repeat (first
          | refine sk_seq ?_
          | refine sk_region ?_
          | refine sk_ops_nil ?_
          | refine sk_draw_nil ?_
          | refine sk_block ?_
          | refine sk_blk ?_
          | refine sk_skip ?_
          | refine sk_exit rfl ?_
          | refine sk_draw (id := 28) [0, 1, 2, 3, 4, 5, 6] mixed (by kernel_rfl) ?_
          | ((first | (apply sk_r; rfl; rfl) | (apply sk_w; rfl; rfl) | (apply sk_i; rfl) | (apply sk_g; rfl; rfl) | (apply sk_dr; rfl; rfl; rfl) | (apply sk_dg; rfl; rfl; rfl; rfl; rfl) | apply drd_i); (simp only [go_sem, Nat.reduceLT, Nat.reduceLeDiff, Nat.reduceEqDiff, Nat.reduceAdd, Nat.reduceSub, Nat.reduceMul, reduceIte, reduceCtorEq, h0, h1, e1, e2, e4, hc, hb] <;> rfl); (first | refine sk_id ?_ | refine cs_t ?_ | refine cs_f ?_ | refine gs_t rfl ?_ | refine gs_f rfl ?_))
          | ((first | (apply sk_c; rfl; rfl)); (simp only [go_sem, Nat.reduceLT, Nat.reduceLeDiff, Nat.reduceEqDiff, Nat.reduceAdd, Nat.reduceSub, Nat.reduceMul, reduceIte, reduceCtorEq, h0, h1, e1, e2, e4, hc, hb] <;> rfl); (first
              | (refine (f20_tr _ _).mono ?_; rintro _ _ ⟨rfl, rfl⟩)); refine sk_id ?_))
        exact sk_stop ⟨d.length - (j + 1), by omega, j + 1, rfl, (run_step hc (by rw [in_slash, hb]; rfl)).symm.trans hr, (by first | (simp only [go_sem, Nat.reduceLT, Nat.reduceLeDiff, Nat.reduceEqDiff, Nat.reduceAdd, Nat.reduceSub, Nat.reduceMul, reduceIte, reduceCtorEq, h0] <;> rfl) | fail), (by first | (simp only [go_sem, Nat.reduceLT, Nat.reduceLeDiff, Nat.reduceEqDiff, Nat.reduceAdd, Nat.reduceSub, Nat.reduceMul, reduceIte, reduceCtorEq] <;> rfl) | fail), rfl⟩
    · have e1 : decide ((j : Int) < d.length) = false := by simp; omega
      repeat (first
        | refine sk_seq ?_
        | refine sk_region ?_
        | refine sk_ops_nil ?_
        | refine sk_draw_nil ?_
        | refine sk_block ?_
        | refine sk_blk ?_
        | refine sk_skip ?_
        | refine sk_exit rfl ?_
        | refine sk_draw (id := 28) [0, 1, 2, 3, 4, 5, 6] mixed (by kernel_rfl) ?_
        | ((first | (apply sk_r; rfl; rfl) | (apply sk_w; rfl; rfl) | (apply sk_i; rfl) | (apply sk_g; rfl; rfl) | (apply sk_dr; rfl; rfl; rfl) | (apply sk_dg; rfl; rfl; rfl; rfl; rfl) | apply drd_i); (simp only [go_sem, Nat.reduceLT, Nat.reduceLeDiff, Nat.reduceEqDiff, Nat.reduceAdd, Nat.reduceSub, Nat.reduceMul, reduceIte, reduceCtorEq, h0, h1, e1] <;> rfl); (first | refine sk_id ?_ | refine cs_t ?_ | refine cs_f ?_ | refine gs_t rfl ?_ | refine gs_f rfl ?_)))
      exact sk_end ⟨rfl, (by first | (simp only [go_sem, Nat.reduceLT, Nat.reduceLeDiff, Nat.reduceEqDiff, Nat.reduceAdd, Nat.reduceSub, Nat.reduceMul, reduceIte, reduceCtorEq, h0] <;> rfl) | fail), by rw [← hr, run_end (by omega)]; exact (by first | (simp only [go_sem, Nat.reduceLT, Nat.reduceLeDiff, Nat.reduceEqDiff, Nat.reduceAdd, Nat.reduceSub, Nat.reduceMul, reduceIte, reduceCtorEq, h1] <;> rfl) | fail)⟩
  rintro fr τ ⟨hτ, h0, h1⟩
  rw [hτ]
  have hk1 : run (isIn [9, 10, 12, 13, 32, 47]) d k ≤ d.length := run_le hk
  unfold attrOf
  generalize run (isIn [9, 10, 12, 13, 32, 47]) d k = k1 at *
  by_cases hlt : k1 < d.length
  · obtain ⟨c, hc⟩ := at_some hlt
    simp only [hc]
    have e1 : ((k1 : Int) == (d.length : Int)) = false := by simp; omega
    have e2 : (0 : Int) ≤ (k1 : Int) := by omega
    by_cases h62 : c = 62
    · rw [if_pos h62]
      have e3 : ((c : Int) == 62) = true := by simp; omega
      repeat (first
        | refine sk_seq ?_
        | refine sk_region ?_
        | refine sk_ops_nil ?_
        | refine sk_draw_nil ?_
        | refine sk_block ?_
        | refine sk_blk ?_
        | refine sk_skip ?_
        | refine sk_exit rfl ?_
        | refine sk_draw (id := 28) [0, 1, 2, 3, 4, 5, 6] mixed (by kernel_rfl) ?_
        | ((first | (apply sk_r; rfl; rfl) | (apply sk_w; rfl; rfl) | (apply sk_i; rfl) | (apply sk_g; rfl; rfl) | (apply sk_dr; rfl; rfl; rfl) | (apply sk_dg; rfl; rfl; rfl; rfl; rfl) | apply drd_i); (simp only [go_sem, Nat.reduceLT, Nat.reduceLeDiff, Nat.reduceEqDiff, Nat.reduceAdd, Nat.reduceSub, Nat.reduceMul, reduceIte, reduceCtorEq, h0, h1, e1, e2, e3, hc] <;> rfl); (first | refine sk_id ?_ | refine cs_t ?_ | refine cs_f ?_ | refine gs_t rfl ?_ | refine gs_f rfl ?_)))
      exact sk_ret ⟨_, (by first | (simp only [aRet, Tryd.results23, aResults, aResult, go_sem, Nat.reduceLT, Nat.reduceLeDiff, Nat.reduceEqDiff, Nat.reduceAdd, Nat.reduceSub, Nat.reduceMul, reduceIte, reduceCtorEq] <;> rfl) | fail), by exact ⟨rfl, by trivial⟩⟩
    rw [if_neg h62]
    have e3 : ((c : Int) == 62) = false := by simp; omega
    repeat (first
      | refine sk_seq ?_
      | refine sk_region ?_
      | refine sk_ops_nil ?_
      | refine sk_draw_nil ?_
      | refine sk_block ?_
      | refine sk_blk ?_
      | refine sk_skip ?_
      | refine sk_exit rfl ?_
      | refine sk_draw (id := 28) [0, 1, 2, 3, 4, 5, 6] mixed (by kernel_rfl) ?_
      | ((first | (apply sk_r; rfl; rfl) | (apply sk_w; rfl; rfl) | (apply sk_i; rfl) | (apply sk_g; rfl; rfl) | (apply sk_dr; rfl; rfl; rfl) | (apply sk_dg; rfl; rfl; rfl; rfl; rfl) | apply drd_i); (simp only [go_sem, Nat.reduceLT, Nat.reduceLeDiff, Nat.reduceEqDiff, Nat.reduceAdd, Nat.reduceSub, Nat.reduceMul, reduceIte, reduceCtorEq, h0, h1, e1, e2, e3, hc] <;> rfl); (first | refine sk_id ?_ | refine cs_t ?_ | refine cs_f ?_ | refine gs_t rfl ?_ | refine gs_f rfl ?_)))
    obtain ⟨n, hn⟩ : ∃ n, nameEnd d (k1 + 1) = n := ⟨_, rfl⟩
    rw [hn]
    have hge : k1 + 1 ≤ n := by rw [← hn]; exact run_ge _ _ _
    by_cases hnl : n < d.length
    · obtain ⟨x, hx⟩ := at_some hnl
      simp only [hx]
      refine sk_cut (fun fr σ' => σ' = σ ∧ fget fr 0 = .str d ∧ fget fr 1 = .int .i64 (n : Nat) ∧ fget fr 8 = .int .i64 (k1 : Nat)) ?_ ?_
      · refine sk_loop (fun m fr σ' => ∃ j, m = d.length - j ∧ k1 ≤ j ∧ (k1 < j → nameEnd d j = n) ∧ fget fr 0 = .str d ∧ fget fr 1 = .int .i64 (j : Nat) ∧ fget fr 8 = .int .i64 (k1 : Nat) ∧ σ' = σ) _ ⟨k1, rfl, by omega, fun h => absurd h (by omega), (by first | (simp only [go_sem, Nat.reduceLT, Nat.reduceLeDiff, Nat.reduceEqDiff, Nat.reduceAdd, Nat.reduceSub, Nat.reduceMul, reduceIte, reduceCtorEq, h0] <;> rfl) | fail), (by first | (simp only [go_sem, Nat.reduceLT, Nat.reduceLeDiff, Nat.reduceEqDiff, Nat.reduceAdd, Nat.reduceSub, Nat.reduceMul, reduceIte, reduceCtorEq, h1] <;> rfl) | fail), (by first | (simp only [go_sem, Nat.reduceLT, Nat.reduceLeDiff, Nat.reduceEqDiff, Nat.reduceAdd, Nat.reduceSub, Nat.reduceMul, reduceIte, reduceCtorEq, h1] <;> rfl) | fail), rfl⟩ ?_
        rintro _ fr _ ⟨j, rfl, hkj, hr, h0, h1, h8, rfl⟩
        have hj : j < d.length := by
          by_cases e : k1 < j
          · have h := run_ge (fun c => !isIn [61, 47, 62, 9, 10, 12, 13, 32] c) d j
            have := hr e
            unfold nameEnd at this
            omega
          · omega
        obtain ⟨y, hy⟩ := at_some hj
        have f1 : ((j : Int) == (d.length : Int)) = false := by simp; omega
        have f2 : (0 : Int) ≤ (j : Int) := by omega
        have f3 : IntKind.wrap .i64 ((j : Int) + 1) = ((j + 1 : Nat) : Int) := wrap_i64 (by omega) (by omega)
        by_cases hkj2 : k1 < j
        · have f4 : decide ((j : Int) > k1) = true := by simp; omega
          cases hin : isIn [61, 47, 62, 9, 10, 12, 13, 32] y
          · skip
            have hin2 := hin
            rw [in_name] at hin2
            simp only [Bool.or_eq_false_iff, decide_eq_false_iff_not] at hin2
            obtain ⟨⟨⟨i1, i2⟩, i3⟩, hb⟩ := hin2
            have g1 : ((y : Int) == 61) = false := by simp; omega
            have g2 : ((y : Int) == 47) = false := by simp; omega
            have g3 : ((y : Int) == 62) = false := by simp; omega
            repeat (first
              | refine sk_seq ?_
              | refine sk_region ?_
              | refine sk_ops_nil ?_
              | refine sk_draw_nil ?_
              | refine sk_block ?_
              | refine sk_blk ?_
              | refine sk_skip ?_
              | refine sk_exit rfl ?_
              | refine sk_draw (id := 28) [0, 1, 2, 3, 4, 5, 6] mixed (by kernel_rfl) ?_
              | ((first | (apply sk_r; rfl; rfl) | (apply sk_w; rfl; rfl) | (apply sk_i; rfl) | (apply sk_g; rfl; rfl) | (apply sk_dr; rfl; rfl; rfl) | (apply sk_dg; rfl; rfl; rfl; rfl; rfl) | apply drd_i); (simp only [go_sem, Nat.reduceLT, Nat.reduceLeDiff, Nat.reduceEqDiff, Nat.reduceAdd, Nat.reduceSub, Nat.reduceMul, reduceIte, reduceCtorEq, h0, h1, h8, f1, f2, f3, f4, hy, g1, g2, g3, hb] <;> rfl); (first | refine sk_id ?_ | refine cs_t ?_ | refine cs_f ?_ | refine gs_t rfl ?_ | refine gs_f rfl ?_))
              | ((first | (apply sk_c; rfl; rfl)); (simp only [go_sem, Nat.reduceLT, Nat.reduceLeDiff, Nat.reduceEqDiff, Nat.reduceAdd, Nat.reduceSub, Nat.reduceMul, reduceIte, reduceCtorEq, h0, h1, h8, f1, f2, f3, f4, hy, g1, g2, g3, hb] <;> rfl); (first
                  | (refine (f20_tr _ _).mono ?_; rintro _ _ ⟨rfl, rfl⟩)); refine sk_id ?_))
            exact sk_stop ⟨d.length - (j + 1), by omega, j + 1, rfl, by omega, fun _ => (run_step hy (by rw [hin]; rfl)).symm.trans (hr hkj2), (by first | (simp only [go_sem, Nat.reduceLT, Nat.reduceLeDiff, Nat.reduceEqDiff, Nat.reduceAdd, Nat.reduceSub, Nat.reduceMul, reduceIte, reduceCtorEq, h0] <;> rfl) | fail), (by first | (simp only [go_sem, Nat.reduceLT, Nat.reduceLeDiff, Nat.reduceEqDiff, Nat.reduceAdd, Nat.reduceSub, Nat.reduceMul, reduceIte, reduceCtorEq] <;> rfl) | fail), (by first | (simp only [go_sem, Nat.reduceLT, Nat.reduceLeDiff, Nat.reduceEqDiff, Nat.reduceAdd, Nat.reduceSub, Nat.reduceMul, reduceIte, reduceCtorEq, h8] <;> rfl) | fail), rfl⟩
          · have hin2 := hin
            rw [in_name] at hin2
            by_cases i1 : y = 61
            · have g1 : ((y : Int) == 61) = true := by simp; omega
              repeat (first
                | refine sk_seq ?_
                | refine sk_region ?_
                | refine sk_ops_nil ?_
                | refine sk_draw_nil ?_
                | refine sk_block ?_
                | refine sk_blk ?_
                | refine sk_skip ?_
                | refine sk_exit rfl ?_
                | refine sk_draw (id := 28) [0, 1, 2, 3, 4, 5, 6] mixed (by kernel_rfl) ?_
                | ((first | (apply sk_r; rfl; rfl) | (apply sk_w; rfl; rfl) | (apply sk_i; rfl) | (apply sk_g; rfl; rfl) | (apply sk_dr; rfl; rfl; rfl) | (apply sk_dg; rfl; rfl; rfl; rfl; rfl) | apply drd_i); (simp only [go_sem, Nat.reduceLT, Nat.reduceLeDiff, Nat.reduceEqDiff, Nat.reduceAdd, Nat.reduceSub, Nat.reduceMul, reduceIte, reduceCtorEq, h0, h1, h8, f1, f2, f3, f4, hy, g1] <;> rfl); (first | refine sk_id ?_ | refine cs_t ?_ | refine cs_f ?_ | refine gs_t rfl ?_ | refine gs_f rfl ?_)))
              exact sk_end ⟨rfl, (by first | (simp only [go_sem, Nat.reduceLT, Nat.reduceLeDiff, Nat.reduceEqDiff, Nat.reduceAdd, Nat.reduceSub, Nat.reduceMul, reduceIte, reduceCtorEq, h0] <;> rfl) | fail), by rw [← hr hkj2, nameEnd, run_stop hy (by rw [hin]; rfl)]; exact (by first | (simp only [go_sem, Nat.reduceLT, Nat.reduceLeDiff, Nat.reduceEqDiff, Nat.reduceAdd, Nat.reduceSub, Nat.reduceMul, reduceIte, reduceCtorEq, h1] <;> rfl) | fail), (by first | (simp only [go_sem, Nat.reduceLT, Nat.reduceLeDiff, Nat.reduceEqDiff, Nat.reduceAdd, Nat.reduceSub, Nat.reduceMul, reduceIte, reduceCtorEq, h8] <;> rfl) | fail)⟩
            have g1 : ((y : Int) == 61) = false := by simp; omega
            by_cases i2 : y = 47
            · have g2 : ((y : Int) == 47) = true := by simp; omega
              repeat (first
                | refine sk_seq ?_
                | refine sk_region ?_
                | refine sk_ops_nil ?_
                | refine sk_draw_nil ?_
                | refine sk_block ?_
                | refine sk_blk ?_
                | refine sk_skip ?_
                | refine sk_exit rfl ?_
                | refine sk_draw (id := 28) [0, 1, 2, 3, 4, 5, 6] mixed (by kernel_rfl) ?_
                | ((first | (apply sk_r; rfl; rfl) | (apply sk_w; rfl; rfl) | (apply sk_i; rfl) | (apply sk_g; rfl; rfl) | (apply sk_dr; rfl; rfl; rfl) | (apply sk_dg; rfl; rfl; rfl; rfl; rfl) | apply drd_i); (simp only [go_sem, Nat.reduceLT, Nat.reduceLeDiff, Nat.reduceEqDiff, Nat.reduceAdd, Nat.reduceSub, Nat.reduceMul, reduceIte, reduceCtorEq, h0, h1, h8, f1, f2, f3, f4, hy, g1, g2] <;> rfl); (first | refine sk_id ?_ | refine cs_t ?_ | refine cs_f ?_ | refine gs_t rfl ?_ | refine gs_f rfl ?_)))
              exact sk_end ⟨rfl, (by first | (simp only [go_sem, Nat.reduceLT, Nat.reduceLeDiff, Nat.reduceEqDiff, Nat.reduceAdd, Nat.reduceSub, Nat.reduceMul, reduceIte, reduceCtorEq, h0] <;> rfl) | fail), by rw [← hr hkj2, nameEnd, run_stop hy (by rw [hin]; rfl)]; exact (by first | (simp only [go_sem, Nat.reduceLT, Nat.reduceLeDiff, Nat.reduceEqDiff, Nat.reduceAdd, Nat.reduceSub, Nat.reduceMul, reduceIte, reduceCtorEq, h1] <;> rfl) | fail), (by first | (simp only [go_sem, Nat.reduceLT, Nat.reduceLeDiff, Nat.reduceEqDiff, Nat.reduceAdd, Nat.reduceSub, Nat.reduceMul, reduceIte, reduceCtorEq, h8] <;> rfl) | fail)⟩
            have g2 : ((y : Int) == 47) = false := by simp; omega
            by_cases i3 : y = 62
            · have g3 : ((y : Int) == 62) = true := by simp; omega
              repeat (first
                | refine sk_seq ?_
                | refine sk_region ?_
                | refine sk_ops_nil ?_
                | refine sk_draw_nil ?_
                | refine sk_block ?_
                | refine sk_blk ?_
                | refine sk_skip ?_
                | refine sk_exit rfl ?_
                | refine sk_draw (id := 28) [0, 1, 2, 3, 4, 5, 6] mixed (by kernel_rfl) ?_
                | ((first | (apply sk_r; rfl; rfl) | (apply sk_w; rfl; rfl) | (apply sk_i; rfl) | (apply sk_g; rfl; rfl) | (apply sk_dr; rfl; rfl; rfl) | (apply sk_dg; rfl; rfl; rfl; rfl; rfl) | apply drd_i); (simp only [go_sem, Nat.reduceLT, Nat.reduceLeDiff, Nat.reduceEqDiff, Nat.reduceAdd, Nat.reduceSub, Nat.reduceMul, reduceIte, reduceCtorEq, h0, h1, h8, f1, f2, f3, f4, hy, g1, g2, g3] <;> rfl); (first | refine sk_id ?_ | refine cs_t ?_ | refine cs_f ?_ | refine gs_t rfl ?_ | refine gs_f rfl ?_)))
              exact sk_end ⟨rfl, (by first | (simp only [go_sem, Nat.reduceLT, Nat.reduceLeDiff, Nat.reduceEqDiff, Nat.reduceAdd, Nat.reduceSub, Nat.reduceMul, reduceIte, reduceCtorEq, h0] <;> rfl) | fail), by rw [← hr hkj2, nameEnd, run_stop hy (by rw [hin]; rfl)]; exact (by first | (simp only [go_sem, Nat.reduceLT, Nat.reduceLeDiff, Nat.reduceEqDiff, Nat.reduceAdd, Nat.reduceSub, Nat.reduceMul, reduceIte, reduceCtorEq, h1] <;> rfl) | fail), (by first | (simp only [go_sem, Nat.reduceLT, Nat.reduceLeDiff, Nat.reduceEqDiff, Nat.reduceAdd, Nat.reduceSub, Nat.reduceMul, reduceIte, reduceCtorEq, h8] <;> rfl) | fail)⟩
            have g3 : ((y : Int) == 62) = false := by simp; omega
            have hb : isIn [9, 10, 12, 13, 32] y = true := by simpa [i1, i2, i3] using hin2
            repeat (first
              | refine sk_seq ?_
              | refine sk_region ?_
              | refine sk_ops_nil ?_
              | refine sk_draw_nil ?_
              | refine sk_block ?_
              | refine sk_blk ?_
              | refine sk_skip ?_
              | refine sk_exit rfl ?_
              | refine sk_draw (id := 28) [0, 1, 2, 3, 4, 5, 6] mixed (by kernel_rfl) ?_
              | ((first | (apply sk_r; rfl; rfl) | (apply sk_w; rfl; rfl) | (apply sk_i; rfl) | (apply sk_g; rfl; rfl) | (apply sk_dr; rfl; rfl; rfl) | (apply sk_dg; rfl; rfl; rfl; rfl; rfl) | apply drd_i); (simp only [go_sem, Nat.reduceLT, Nat.reduceLeDiff, Nat.reduceEqDiff, Nat.reduceAdd, Nat.reduceSub, Nat.reduceMul, reduceIte, reduceCtorEq, h0, h1, h8, f1, f2, f3, f4, hy, g1, g2, g3, hb] <;> rfl); (first | refine sk_id ?_ | refine cs_t ?_ | refine cs_f ?_ | refine gs_t rfl ?_ | refine gs_f rfl ?_))
              | ((first | (apply sk_c; rfl; rfl)); (simp only [go_sem, Nat.reduceLT, Nat.reduceLeDiff, Nat.reduceEqDiff, Nat.reduceAdd, Nat.reduceSub, Nat.reduceMul, reduceIte, reduceCtorEq, h0, h1, h8, f1, f2, f3, f4, hy, g1, g2, g3, hb] <;> rfl); (first
                  | (refine (f20_tr _ _).mono ?_; rintro _ _ ⟨rfl, rfl⟩)); refine sk_id ?_))
            exact sk_end ⟨rfl, (by first | (simp only [go_sem, Nat.reduceLT, Nat.reduceLeDiff, Nat.reduceEqDiff, Nat.reduceAdd, Nat.reduceSub, Nat.reduceMul, reduceIte, reduceCtorEq, h0] <;> rfl) | fail), by rw [← hr hkj2, nameEnd, run_stop hy (by rw [hin]; rfl)]; exact (by first | (simp only [go_sem, Nat.reduceLT, Nat.reduceLeDiff, Nat.reduceEqDiff, Nat.reduceAdd, Nat.reduceSub, Nat.reduceMul, reduceIte, reduceCtorEq, h1] <;> rfl) | fail), (by first | (simp only [go_sem, Nat.reduceLT, Nat.reduceLeDiff, Nat.reduceEqDiff, Nat.reduceAdd, Nat.reduceSub, Nat.reduceMul, reduceIte, reduceCtorEq, h8] <;> rfl) | fail)⟩
        · have f4 : decide ((j : Int) > k1) = false := by simp; omega
          repeat (first
            | refine sk_seq ?_
            | refine sk_region ?_
            | refine sk_ops_nil ?_
            | refine sk_draw_nil ?_
            | refine sk_block ?_
            | refine sk_blk ?_
            | refine sk_skip ?_
            | refine sk_exit rfl ?_
            | refine sk_draw (id := 28) [0, 1, 2, 3, 4, 5, 6] mixed (by kernel_rfl) ?_
            | ((first | (apply sk_r; rfl; rfl) | (apply sk_w; rfl; rfl) | (apply sk_i; rfl) | (apply sk_g; rfl; rfl) | (apply sk_dr; rfl; rfl; rfl) | (apply sk_dg; rfl; rfl; rfl; rfl; rfl) | apply drd_i); (simp only [go_sem, Nat.reduceLT, Nat.reduceLeDiff, Nat.reduceEqDiff, Nat.reduceAdd, Nat.reduceSub, Nat.reduceMul, reduceIte, reduceCtorEq, h0, h1, h8, f1, f2, f3, f4, hy] <;> rfl); (first | refine sk_id ?_ | refine cs_t ?_ | refine cs_f ?_ | refine gs_t rfl ?_ | refine gs_f rfl ?_)))
          exact sk_stop ⟨d.length - (j + 1), by omega, j + 1, rfl, by omega, fun _ => by (rw [← hn]; congr 1; omega), (by first | (simp only [go_sem, Nat.reduceLT, Nat.reduceLeDiff, Nat.reduceEqDiff, Nat.reduceAdd, Nat.reduceSub, Nat.reduceMul, reduceIte, reduceCtorEq, h0] <;> rfl) | fail), (by first | (simp only [go_sem, Nat.reduceLT, Nat.reduceLeDiff, Nat.reduceEqDiff, Nat.reduceAdd, Nat.reduceSub, Nat.reduceMul, reduceIte, reduceCtorEq] <;> rfl) | fail), (by first | (simp only [go_sem, Nat.reduceLT, Nat.reduceLeDiff, Nat.reduceEqDiff, Nat.reduceAdd, Nat.reduceSub, Nat.reduceMul, reduceIte, reduceCtorEq, h8] <;> rfl) | fail), rfl⟩
      rintro fr τ ⟨hτ, h0, h1, h8⟩
      rw [hτ]
      have a1 : (k1 : Int) ≤ (n : Int) := by omega
      have a2 : (n : Int) ≤ (d.length : Int) := by omega
      repeat (first
        | refine sk_seq ?_
        | refine sk_region ?_
        | refine sk_ops_nil ?_
        | refine sk_draw_nil ?_
        | refine sk_block ?_
        | refine sk_blk ?_
        | refine sk_skip ?_
        | refine sk_exit rfl ?_
        | refine sk_draw (id := 28) [0, 1, 2, 3, 4, 5, 6] mixed (by kernel_rfl) ?_
        | ((first | (apply sk_r; rfl; rfl) | (apply sk_w; rfl; rfl) | (apply sk_i; rfl) | (apply sk_g; rfl; rfl) | (apply sk_dr; rfl; rfl; rfl) | (apply sk_dg; rfl; rfl; rfl; rfl; rfl) | apply drd_i); (simp only [go_sem, Nat.reduceLT, Nat.reduceLeDiff, Nat.reduceEqDiff, Nat.reduceAdd, Nat.reduceSub, Nat.reduceMul, reduceIte, reduceCtorEq, h0, h1, h8, e2, a1, a2, and_self] <;> rfl); (first | refine sk_id ?_ | refine cs_t ?_ | refine cs_f ?_ | refine gs_t rfl ?_ | refine gs_f rfl ?_))
        | ((first | (apply sk_c; rfl; rfl)); (simp only [go_sem, Nat.reduceLT, Nat.reduceLeDiff, Nat.reduceEqDiff, Nat.reduceAdd, Nat.reduceSub, Nat.reduceMul, reduceIte, reduceCtorEq, h0, h1, h8, e2, a1, a2, and_self] <;> rfl); (first
            | (refine (f24_tr _ (fun c hc => hd c (List.mem_of_mem_take (List.mem_of_mem_drop hc))) (by rw [List.length_drop, List.length_take]; omega) _).mono ?_; rintro _ τ2 ⟨rfl, hτ2⟩; rw [hτ2])); refine sk_id ?_))
      generalize ((d.take n).drop k1).map low = NM at *
      refine sk_cut (fun fr σ' => σ' = σ ∧ fget fr 0 = .str d ∧ fget fr 1 = .int .i64 (blankEnd d n : Nat) ∧ fget fr 9 = .str NM) ?_ ?_
      · refine sk_loop (fun m fr σ' => ∃ j, m = d.length - j ∧ blankEnd d j = blankEnd d n ∧ fget fr 0 = .str d ∧ fget fr 1 = .int .i64 (j : Nat) ∧ fget fr 9 = .str NM ∧ σ' = σ) _ ⟨n, rfl, rfl, (by first | (simp only [go_sem, Nat.reduceLT, Nat.reduceLeDiff, Nat.reduceEqDiff, Nat.reduceAdd, Nat.reduceSub, Nat.reduceMul, reduceIte, reduceCtorEq, h0] <;> rfl) | fail), (by first | (simp only [go_sem, Nat.reduceLT, Nat.reduceLeDiff, Nat.reduceEqDiff, Nat.reduceAdd, Nat.reduceSub, Nat.reduceMul, reduceIte, reduceCtorEq, h1] <;> rfl) | fail), (by first | (simp only [go_sem, Nat.reduceLT, Nat.reduceLeDiff, Nat.reduceEqDiff, Nat.reduceAdd, Nat.reduceSub, Nat.reduceMul, reduceIte, reduceCtorEq] <;> rfl) | fail), rfl⟩ ?_
        rintro _ fr _ ⟨j, rfl, hr, h0, h1, h9, rfl⟩
        by_cases hj : j < d.length
        · obtain ⟨c, hc⟩ := at_some hj
          have e1 : decide ((j : Int) < d.length) = true := by simp; omega
          have e2 : (0 : Int) ≤ (j : Int) := by omega
          have e4 : IntKind.wrap .i64 ((j : Int) + 1) = ((j + 1 : Nat) : Int) := wrap_i64 (by omega) (by omega)
          cases hb : isIn [9, 10, 12, 13, 32] c
          · repeat (first
              | refine sk_seq ?_
              | refine sk_region ?_
              | refine sk_ops_nil ?_
              | refine sk_draw_nil ?_
              | refine sk_block ?_
              | refine sk_blk ?_
              | refine sk_skip ?_
              | refine sk_exit rfl ?_
              | refine sk_draw (id := 28) [0, 1, 2, 3, 4, 5, 6] mixed (by kernel_rfl) ?_
              | ((first | (apply sk_r; rfl; rfl) | (apply sk_w; rfl; rfl) | (apply sk_i; rfl) | (apply sk_g; rfl; rfl) | (apply sk_dr; rfl; rfl; rfl) | (apply sk_dg; rfl; rfl; rfl; rfl; rfl) | apply drd_i); (simp only [go_sem, Nat.reduceLT, Nat.reduceLeDiff, Nat.reduceEqDiff, Nat.reduceAdd, Nat.reduceSub, Nat.reduceMul, reduceIte, reduceCtorEq, h0, h1, h9, e1, e2, e4, hc, hb] <;> rfl); (first | refine sk_id ?_ | refine cs_t ?_ | refine cs_f ?_ | refine gs_t rfl ?_ | refine gs_f rfl ?_))
              | ((first | (apply sk_c; rfl; rfl)); (simp only [go_sem, Nat.reduceLT, Nat.reduceLeDiff, Nat.reduceEqDiff, Nat.reduceAdd, Nat.reduceSub, Nat.reduceMul, reduceIte, reduceCtorEq, h0, h1, h9, e1, e2, e4, hc, hb] <;> rfl); (first
                  | (refine (f20_tr _ _).mono ?_; rintro _ _ ⟨rfl, rfl⟩)); refine sk_id ?_))
            exact sk_end ⟨rfl, (by first | (simp only [go_sem, Nat.reduceLT, Nat.reduceLeDiff, Nat.reduceEqDiff, Nat.reduceAdd, Nat.reduceSub, Nat.reduceMul, reduceIte, reduceCtorEq, h0] <;> rfl) | fail), by rw [← hr, blankEnd, run_stop hc hb]; exact (by first | (simp only [go_sem, Nat.reduceLT, Nat.reduceLeDiff, Nat.reduceEqDiff, Nat.reduceAdd, Nat.reduceSub, Nat.reduceMul, reduceIte, reduceCtorEq, h1] <;> rfl) | fail), (by first | (simp only [go_sem, Nat.reduceLT, Nat.reduceLeDiff, Nat.reduceEqDiff, Nat.reduceAdd, Nat.reduceSub, Nat.reduceMul, reduceIte, reduceCtorEq, h9] <;> rfl) | fail)⟩
          · repeat (first
              | refine sk_seq ?_
              | refine sk_region ?_
              | refine sk_ops_nil ?_
              | refine sk_draw_nil ?_
              | refine sk_block ?_
              | refine sk_blk ?_
              | refine sk_skip ?_
              | refine sk_exit rfl ?_
              | refine sk_draw (id := 28) [0, 1, 2, 3, 4, 5, 6] mixed (by kernel_rfl) ?_
              | ((first | (apply sk_r; rfl; rfl) | (apply sk_w; rfl; rfl) | (apply sk_i; rfl) | (apply sk_g; rfl; rfl) | (apply sk_dr; rfl; rfl; rfl) | (apply sk_dg; rfl; rfl; rfl; rfl; rfl) | apply drd_i); (simp only [go_sem, Nat.reduceLT, Nat.reduceLeDiff, Nat.reduceEqDiff, Nat.reduceAdd, Nat.reduceSub, Nat.reduceMul, reduceIte, reduceCtorEq, h0, h1, h9, e1, e2, e4, hc, hb] <;> rfl); (first | refine sk_id ?_ | refine cs_t ?_ | refine cs_f ?_ | refine gs_t rfl ?_ | refine gs_f rfl ?_))
              | ((first | (apply sk_c; rfl; rfl)); (simp only [go_sem, Nat.reduceLT, Nat.reduceLeDiff, Nat.reduceEqDiff, Nat.reduceAdd, Nat.reduceSub, Nat.reduceMul, reduceIte, reduceCtorEq, h0, h1, h9, e1, e2, e4, hc, hb] <;> rfl); (first
                  | (refine (f20_tr _ _).mono ?_; rintro _ _ ⟨rfl, rfl⟩)); refine sk_id ?_))
            exact sk_stop ⟨d.length - (j + 1), by omega, j + 1, rfl, (run_step hc hb).symm.trans hr, (by first | (simp only [go_sem, Nat.reduceLT, Nat.reduceLeDiff, Nat.reduceEqDiff, Nat.reduceAdd, Nat.reduceSub, Nat.reduceMul, reduceIte, reduceCtorEq, h0] <;> rfl) | fail), (by first | (simp only [go_sem, Nat.reduceLT, Nat.reduceLeDiff, Nat.reduceEqDiff, Nat.reduceAdd, Nat.reduceSub, Nat.reduceMul, reduceIte, reduceCtorEq] <;> rfl) | fail), (by first | (simp only [go_sem, Nat.reduceLT, Nat.reduceLeDiff, Nat.reduceEqDiff, Nat.reduceAdd, Nat.reduceSub, Nat.reduceMul, reduceIte, reduceCtorEq, h9] <;> rfl) | fail), rfl⟩
        · have e1 : decide ((j : Int) < d.length) = false := by simp; omega
          repeat (first
            | refine sk_seq ?_
            | refine sk_region ?_
            | refine sk_ops_nil ?_
            | refine sk_draw_nil ?_
            | refine sk_block ?_
            | refine sk_blk ?_
            | refine sk_skip ?_
            | refine sk_exit rfl ?_
            | refine sk_draw (id := 28) [0, 1, 2, 3, 4, 5, 6] mixed (by kernel_rfl) ?_
            | ((first | (apply sk_r; rfl; rfl) | (apply sk_w; rfl; rfl) | (apply sk_i; rfl) | (apply sk_g; rfl; rfl) | (apply sk_dr; rfl; rfl; rfl) | (apply sk_dg; rfl; rfl; rfl; rfl; rfl) | apply drd_i); (simp only [go_sem, Nat.reduceLT, Nat.reduceLeDiff, Nat.reduceEqDiff, Nat.reduceAdd, Nat.reduceSub, Nat.reduceMul, reduceIte, reduceCtorEq, h0, h1, h9, e1] <;> rfl); (first | refine sk_id ?_ | refine cs_t ?_ | refine cs_f ?_ | refine gs_t rfl ?_ | refine gs_f rfl ?_)))
          exact sk_end ⟨rfl, (by first | (simp only [go_sem, Nat.reduceLT, Nat.reduceLeDiff, Nat.reduceEqDiff, Nat.reduceAdd, Nat.reduceSub, Nat.reduceMul, reduceIte, reduceCtorEq, h0] <;> rfl) | fail), by rw [← hr, blankEnd, run_end (by omega)]; exact (by first | (simp only [go_sem, Nat.reduceLT, Nat.reduceLeDiff, Nat.reduceEqDiff, Nat.reduceAdd, Nat.reduceSub, Nat.reduceMul, reduceIte, reduceCtorEq, h1] <;> rfl) | fail), (by first | (simp only [go_sem, Nat.reduceLT, Nat.reduceLeDiff, Nat.reduceEqDiff, Nat.reduceAdd, Nat.reduceSub, Nat.reduceMul, reduceIte, reduceCtorEq, h9] <;> rfl) | fail)⟩
      rintro fr τ ⟨hτ, h0, h1, h9⟩
      rw [hτ]
      have hk2 : blankEnd d n ≤ d.length := run_le (by omega)
      generalize blankEnd d n = k2 at *
      have b2 : (0 : Int) ≤ (k2 : Int) := by omega
      by_cases h2 : k2 < d.length
      · obtain ⟨y, hy⟩ := at_some h2
        have b1 : ((k2 : Int) == (d.length : Int)) = false := by simp; omega
        by_cases h61 : y = 61
        · have b3 : ((y : Int) != 61) = false := by simp; omega
          have b4 : IntKind.wrap .i64 ((k2 : Int) + 1) = ((k2 + 1 : Nat) : Int) := wrap_i64 (by omega) (by omega)
          rw [if_pos (by rw [hy, h61])]
          repeat (first
            | refine sk_seq ?_
            | refine sk_region ?_
            | refine sk_ops_nil ?_
            | refine sk_draw_nil ?_
            | refine sk_block ?_
            | refine sk_blk ?_
            | refine sk_skip ?_
            | refine sk_exit rfl ?_
            | refine sk_draw (id := 28) [0, 1, 2, 3, 4, 5, 6] mixed (by kernel_rfl) ?_
            | ((first | (apply sk_r; rfl; rfl) | (apply sk_w; rfl; rfl) | (apply sk_i; rfl) | (apply sk_g; rfl; rfl) | (apply sk_dr; rfl; rfl; rfl) | (apply sk_dg; rfl; rfl; rfl; rfl; rfl) | apply drd_i); (simp only [go_sem, Nat.reduceLT, Nat.reduceLeDiff, Nat.reduceEqDiff, Nat.reduceAdd, Nat.reduceSub, Nat.reduceMul, reduceIte, reduceCtorEq, h0, h1, h9, b1, b2, b3, b4, hy] <;> rfl); (first | refine sk_id ?_ | refine cs_t ?_ | refine cs_f ?_ | refine gs_t rfl ?_ | refine gs_f rfl ?_)))
          refine sk_cut (fun fr σ' => σ' = σ ∧ fget fr 0 = .str d ∧ fget fr 1 = .int .i64 (blankEnd d (k2 + 1) : Nat) ∧ fget fr 9 = .str NM) ?_ ?_
          · refine sk_loop (fun m fr σ' => ∃ j, m = d.length - j ∧ blankEnd d j = blankEnd d (k2 + 1) ∧ fget fr 0 = .str d ∧ fget fr 1 = .int .i64 (j : Nat) ∧ fget fr 9 = .str NM ∧ σ' = σ) _ ⟨(k2 + 1), rfl, rfl, (by first | (simp only [go_sem, Nat.reduceLT, Nat.reduceLeDiff, Nat.reduceEqDiff, Nat.reduceAdd, Nat.reduceSub, Nat.reduceMul, reduceIte, reduceCtorEq, h0] <;> rfl) | fail), (by first | (simp only [go_sem, Nat.reduceLT, Nat.reduceLeDiff, Nat.reduceEqDiff, Nat.reduceAdd, Nat.reduceSub, Nat.reduceMul, reduceIte, reduceCtorEq] <;> rfl) | fail), (by first | (simp only [go_sem, Nat.reduceLT, Nat.reduceLeDiff, Nat.reduceEqDiff, Nat.reduceAdd, Nat.reduceSub, Nat.reduceMul, reduceIte, reduceCtorEq, h9] <;> rfl) | fail), rfl⟩ ?_
            rintro _ fr _ ⟨j, rfl, hr, h0, h1, h9, rfl⟩
            by_cases hj : j < d.length
            · obtain ⟨c, hc⟩ := at_some hj
              have e1 : decide ((j : Int) < d.length) = true := by simp; omega
              have e2 : (0 : Int) ≤ (j : Int) := by omega
              have e4 : IntKind.wrap .i64 ((j : Int) + 1) = ((j + 1 : Nat) : Int) := wrap_i64 (by omega) (by omega)
              cases hb : isIn [9, 10, 12, 13, 32] c
              · repeat (first
                  | refine sk_seq ?_
                  | refine sk_region ?_
                  | refine sk_ops_nil ?_
                  | refine sk_draw_nil ?_
                  | refine sk_block ?_
                  | refine sk_blk ?_
                  | refine sk_skip ?_
                  | refine sk_exit rfl ?_
                  | refine sk_draw (id := 28) [0, 1, 2, 3, 4, 5, 6] mixed (by kernel_rfl) ?_
                  | ((first | (apply sk_r; rfl; rfl) | (apply sk_w; rfl; rfl) | (apply sk_i; rfl) | (apply sk_g; rfl; rfl) | (apply sk_dr; rfl; rfl; rfl) | (apply sk_dg; rfl; rfl; rfl; rfl; rfl) | apply drd_i); (simp only [go_sem, Nat.reduceLT, Nat.reduceLeDiff, Nat.reduceEqDiff, Nat.reduceAdd, Nat.reduceSub, Nat.reduceMul, reduceIte, reduceCtorEq, h0, h1, h9, e1, e2, e4, hc, hb] <;> rfl); (first | refine sk_id ?_ | refine cs_t ?_ | refine cs_f ?_ | refine gs_t rfl ?_ | refine gs_f rfl ?_))
                  | ((first | (apply sk_c; rfl; rfl)); (simp only [go_sem, Nat.reduceLT, Nat.reduceLeDiff, Nat.reduceEqDiff, Nat.reduceAdd, Nat.reduceSub, Nat.reduceMul, reduceIte, reduceCtorEq, h0, h1, h9, e1, e2, e4, hc, hb] <;> rfl); (first
                      | (refine (f20_tr _ _).mono ?_; rintro _ _ ⟨rfl, rfl⟩)); refine sk_id ?_))
                exact sk_end ⟨rfl, (by first | (simp only [go_sem, Nat.reduceLT, Nat.reduceLeDiff, Nat.reduceEqDiff, Nat.reduceAdd, Nat.reduceSub, Nat.reduceMul, reduceIte, reduceCtorEq, h0] <;> rfl) | fail), by rw [← hr, blankEnd, run_stop hc hb]; exact (by first | (simp only [go_sem, Nat.reduceLT, Nat.reduceLeDiff, Nat.reduceEqDiff, Nat.reduceAdd, Nat.reduceSub, Nat.reduceMul, reduceIte, reduceCtorEq, h1] <;> rfl) | fail), (by first | (simp only [go_sem, Nat.reduceLT, Nat.reduceLeDiff, Nat.reduceEqDiff, Nat.reduceAdd, Nat.reduceSub, Nat.reduceMul, reduceIte, reduceCtorEq, h9] <;> rfl) | fail)⟩
              · repeat (first
                  | refine sk_seq ?_
                  | refine sk_region ?_
                  | refine sk_ops_nil ?_
                  | refine sk_draw_nil ?_
                  | refine sk_block ?_
                  | refine sk_blk ?_
                  | refine sk_skip ?_
                  | refine sk_exit rfl ?_
                  | refine sk_draw (id := 28) [0, 1, 2, 3, 4, 5, 6] mixed (by kernel_rfl) ?_
                  | ((first | (apply sk_r; rfl; rfl) | (apply sk_w; rfl; rfl) | (apply sk_i; rfl) | (apply sk_g; rfl; rfl) | (apply sk_dr; rfl; rfl; rfl) | (apply sk_dg; rfl; rfl; rfl; rfl; rfl) | apply drd_i); (simp only [go_sem, Nat.reduceLT, Nat.reduceLeDiff, Nat.reduceEqDiff, Nat.reduceAdd, Nat.reduceSub, Nat.reduceMul, reduceIte, reduceCtorEq, h0, h1, h9, e1, e2, e4, hc, hb] <;> rfl); (first | refine sk_id ?_ | refine cs_t ?_ | refine cs_f ?_ | refine gs_t rfl ?_ | refine gs_f rfl ?_))
                  | ((first | (apply sk_c; rfl; rfl)); (simp only [go_sem, Nat.reduceLT, Nat.reduceLeDiff, Nat.reduceEqDiff, Nat.reduceAdd, Nat.reduceSub, Nat.reduceMul, reduceIte, reduceCtorEq, h0, h1, h9, e1, e2, e4, hc, hb] <;> rfl); (first
                      | (refine (f20_tr _ _).mono ?_; rintro _ _ ⟨rfl, rfl⟩)); refine sk_id ?_))
                exact sk_stop ⟨d.length - (j + 1), by omega, j + 1, rfl, (run_step hc hb).symm.trans hr, (by first | (simp only [go_sem, Nat.reduceLT, Nat.reduceLeDiff, Nat.reduceEqDiff, Nat.reduceAdd, Nat.reduceSub, Nat.reduceMul, reduceIte, reduceCtorEq, h0] <;> rfl) | fail), (by first | (simp only [go_sem, Nat.reduceLT, Nat.reduceLeDiff, Nat.reduceEqDiff, Nat.reduceAdd, Nat.reduceSub, Nat.reduceMul, reduceIte, reduceCtorEq] <;> rfl) | fail), (by first | (simp only [go_sem, Nat.reduceLT, Nat.reduceLeDiff, Nat.reduceEqDiff, Nat.reduceAdd, Nat.reduceSub, Nat.reduceMul, reduceIte, reduceCtorEq, h9] <;> rfl) | fail), rfl⟩
            · have e1 : decide ((j : Int) < d.length) = false := by simp; omega
              repeat (first
                | refine sk_seq ?_
                | refine sk_region ?_
                | refine sk_ops_nil ?_
                | refine sk_draw_nil ?_
                | refine sk_block ?_
                | refine sk_blk ?_
                | refine sk_skip ?_
                | refine sk_exit rfl ?_
                | refine sk_draw (id := 28) [0, 1, 2, 3, 4, 5, 6] mixed (by kernel_rfl) ?_
                | ((first | (apply sk_r; rfl; rfl) | (apply sk_w; rfl; rfl) | (apply sk_i; rfl) | (apply sk_g; rfl; rfl) | (apply sk_dr; rfl; rfl; rfl) | (apply sk_dg; rfl; rfl; rfl; rfl; rfl) | apply drd_i); (simp only [go_sem, Nat.reduceLT, Nat.reduceLeDiff, Nat.reduceEqDiff, Nat.reduceAdd, Nat.reduceSub, Nat.reduceMul, reduceIte, reduceCtorEq, h0, h1, h9, e1] <;> rfl); (first | refine sk_id ?_ | refine cs_t ?_ | refine cs_f ?_ | refine gs_t rfl ?_ | refine gs_f rfl ?_)))
              exact sk_end ⟨rfl, (by first | (simp only [go_sem, Nat.reduceLT, Nat.reduceLeDiff, Nat.reduceEqDiff, Nat.reduceAdd, Nat.reduceSub, Nat.reduceMul, reduceIte, reduceCtorEq, h0] <;> rfl) | fail), by rw [← hr, blankEnd, run_end (by omega)]; exact (by first | (simp only [go_sem, Nat.reduceLT, Nat.reduceLeDiff, Nat.reduceEqDiff, Nat.reduceAdd, Nat.reduceSub, Nat.reduceMul, reduceIte, reduceCtorEq, h1] <;> rfl) | fail), (by first | (simp only [go_sem, Nat.reduceLT, Nat.reduceLeDiff, Nat.reduceEqDiff, Nat.reduceAdd, Nat.reduceSub, Nat.reduceMul, reduceIte, reduceCtorEq, h9] <;> rfl) | fail)⟩
          rintro fr τ ⟨hτ, h0, h1, h9⟩
          rw [hτ]
          have hk3 : blankEnd d (k2 + 1) ≤ d.length := run_le (by omega)
          generalize blankEnd d (k2 + 1) = k3 at *
          have c2 : (0 : Int) ≤ (k3 : Int) := by omega
          by_cases h3 : k3 < d.length
          · obtain ⟨q, hq⟩ := at_some h3
            have c1 : ((k3 : Int) == (d.length : Int)) = false := by simp; omega
            have hq8 := hd q (at_mem hq)
            have c4 : IntKind.wrap .i64 ((k3 : Int) + 1) = ((k3 + 1 : Nat) : Int) := wrap_i64 (by omega) (by omega)
            have c5 : (0 : Int) ≤ ((k3 + 1 : Nat) : Int) := by omega
            by_cases hqq : q = 34 ∨ q = 39
            · have hva : valueAt d k3 = if run (fun c => !isIn [q] c) d (k3 + 1) < d.length then some (((d.take (run (fun c => !isIn [q] c) d (k3 + 1))).drop (k3 + 1)).map low, run (fun c => !isIn [q] c) d (k3 + 1) + 1) else none := by
                unfold valueAt; rw [hq]; simp only; rw [if_pos hqq]
              have c6 : ((q : Int) == 62) = false := by simp; omega
              by_cases h34 : q = 34
              · have c7 : ((q : Int) == 34) = true := by simp; omega
                repeat (first
                  | refine sk_seq ?_
                  | refine sk_region ?_
                  | refine sk_ops_nil ?_
                  | refine sk_draw_nil ?_
                  | refine sk_block ?_
                  | refine sk_blk ?_
                  | refine sk_skip ?_
                  | refine sk_exit rfl ?_
                  | refine sk_draw (id := 28) [0, 1, 2, 3, 4, 5, 6] mixed (by kernel_rfl) ?_
                  | ((first | (apply sk_r; rfl; rfl) | (apply sk_w; rfl; rfl) | (apply sk_i; rfl) | (apply sk_g; rfl; rfl) | (apply sk_dr; rfl; rfl; rfl) | (apply sk_dg; rfl; rfl; rfl; rfl; rfl) | apply drd_i); (simp only [go_sem, Nat.reduceLT, Nat.reduceLeDiff, Nat.reduceEqDiff, Nat.reduceAdd, Nat.reduceSub, Nat.reduceMul, reduceIte, reduceCtorEq, h0, h1, h9, c1, c2, c4, c6, c7, hq] <;> rfl); (first | refine sk_id ?_ | refine cs_t ?_ | refine cs_f ?_ | refine gs_t rfl ?_ | refine gs_f rfl ?_)))
                refine sk_loop (fun m fr σ' => ∃ j, m = d.length - j ∧ k3 + 1 ≤ j ∧ j ≤ d.length ∧ run (fun c => !isIn [q] c) d j = run (fun c => !isIn [q] c) d (k3 + 1) ∧ fget fr 0 = .str d ∧ fget fr 1 = .int .i64 (k3 : Nat) ∧ fget fr 9 = .str NM ∧ fget fr 10 = .int .i64 (j : Nat) ∧ σ' = σ) _ ⟨k3 + 1, rfl, by omega, by omega, rfl, (by first | (simp only [go_sem, Nat.reduceLT, Nat.reduceLeDiff, Nat.reduceEqDiff, Nat.reduceAdd, Nat.reduceSub, Nat.reduceMul, reduceIte, reduceCtorEq, h0] <;> rfl) | fail), (by first | (simp only [go_sem, Nat.reduceLT, Nat.reduceLeDiff, Nat.reduceEqDiff, Nat.reduceAdd, Nat.reduceSub, Nat.reduceMul, reduceIte, reduceCtorEq, h1] <;> rfl) | fail), (by first | (simp only [go_sem, Nat.reduceLT, Nat.reduceLeDiff, Nat.reduceEqDiff, Nat.reduceAdd, Nat.reduceSub, Nat.reduceMul, reduceIte, reduceCtorEq, h9] <;> rfl) | fail), (by first | (simp only [go_sem, Nat.reduceLT, Nat.reduceLeDiff, Nat.reduceEqDiff, Nat.reduceAdd, Nat.reduceSub, Nat.reduceMul, reduceIte, reduceCtorEq] <;> rfl) | fail), rfl⟩ ?_
                rintro _ fr _ ⟨j, rfl, hj1, hj2, hr, h0, h1, h9, h10, rfl⟩
                by_cases hj : j < d.length
                · obtain ⟨y, hy⟩ := at_some hj
                  have e1 : decide ((j : Int) < d.length) = true := by simp; omega
                  have e2 : (0 : Int) ≤ (j : Int) := by omega
                  have e4 : IntKind.wrap .i64 ((j : Int) + 1) = ((j + 1 : Nat) : Int) := wrap_i64 (by omega) (by omega)
                  by_cases hyq : y = q
                  · have e5 : ((y : Int) == (q : Int)) = true := by simp; omega
                    have a1 : ((k3 + 1 : Nat) : Int) ≤ (j : Int) := by omega
                    have a2 : (j : Int) ≤ (d.length : Int) := by omega
                    have hfj : run (fun c => !isIn [q] c) d (k3 + 1) = j := by rw [← hr]; exact run_stop hy (isIn_yes (by simp [hyq]))
                    rw [hfj, if_pos hj] at hva
                    rw [hva]
                    repeat (first
                      | refine sk_seq ?_
                      | refine sk_region ?_
                      | refine sk_ops_nil ?_
                      | refine sk_draw_nil ?_
                      | refine sk_block ?_
                      | refine sk_blk ?_
                      | refine sk_skip ?_
                      | refine sk_exit rfl ?_
                      | refine sk_draw (id := 28) [0, 1, 2, 3, 4, 5, 6] mixed (by kernel_rfl) ?_
                      | ((first | (apply sk_r; rfl; rfl) | (apply sk_w; rfl; rfl) | (apply sk_i; rfl) | (apply sk_g; rfl; rfl) | (apply sk_dr; rfl; rfl; rfl) | (apply sk_dg; rfl; rfl; rfl; rfl; rfl) | apply drd_i); (simp only [go_sem, Nat.reduceLT, Nat.reduceLeDiff, Nat.reduceEqDiff, Nat.reduceAdd, Nat.reduceSub, Nat.reduceMul, reduceIte, reduceCtorEq, h0, h1, h9, h10, e1, e2, e4, e5, c2, c4, c5, a1, a2, and_self, hq, hy] <;> rfl); (first | refine sk_id ?_ | refine cs_t ?_ | refine cs_f ?_ | refine gs_t rfl ?_ | refine gs_f rfl ?_))
                      | ((first | (apply sk_c; rfl; rfl)); (simp only [go_sem, Nat.reduceLT, Nat.reduceLeDiff, Nat.reduceEqDiff, Nat.reduceAdd, Nat.reduceSub, Nat.reduceMul, reduceIte, reduceCtorEq, h0, h1, h9, h10, e1, e2, e4, e5, c2, c4, c5, a1, a2, and_self, hq, hy] <;> rfl); (first
                          | (refine (f24_tr _ (fun c hc => hd c (List.mem_of_mem_take (List.mem_of_mem_drop hc))) (by rw [List.length_drop, List.length_take]; omega) _).mono ?_; rintro _ τ2 ⟨rfl, hτ2⟩; rw [hτ2])); refine sk_id ?_))
                    exact sk_ret ⟨_, (by first | (simp only [aRet, Tryd.results23, aResults, aResult, go_sem, Nat.reduceLT, Nat.reduceLeDiff, Nat.reduceEqDiff, Nat.reduceAdd, Nat.reduceSub, Nat.reduceMul, reduceIte, reduceCtorEq] <;> rfl) | fail), by exact ⟨rfl, by trivial⟩⟩
                  · have e5 : ((y : Int) == (q : Int)) = false := by simp; omega
                    repeat (first
                      | refine sk_seq ?_
                      | refine sk_region ?_
                      | refine sk_ops_nil ?_
                      | refine sk_draw_nil ?_
                      | refine sk_block ?_
                      | refine sk_blk ?_
                      | refine sk_skip ?_
                      | refine sk_exit rfl ?_
                      | refine sk_draw (id := 28) [0, 1, 2, 3, 4, 5, 6] mixed (by kernel_rfl) ?_
                      | ((first | (apply sk_r; rfl; rfl) | (apply sk_w; rfl; rfl) | (apply sk_i; rfl) | (apply sk_g; rfl; rfl) | (apply sk_dr; rfl; rfl; rfl) | (apply sk_dg; rfl; rfl; rfl; rfl; rfl) | apply drd_i); (simp only [go_sem, Nat.reduceLT, Nat.reduceLeDiff, Nat.reduceEqDiff, Nat.reduceAdd, Nat.reduceSub, Nat.reduceMul, reduceIte, reduceCtorEq, h0, h1, h9, h10, e1, e2, e4, e5, c2, hq, hy] <;> rfl); (first | refine sk_id ?_ | refine cs_t ?_ | refine cs_f ?_ | refine gs_t rfl ?_ | refine gs_f rfl ?_)))
                    exact sk_stop ⟨d.length - (j + 1), by omega, j + 1, rfl, by omega, by omega, (run_step hy (isIn_not (by simp [hyq]))).symm.trans hr, (by first | (simp only [go_sem, Nat.reduceLT, Nat.reduceLeDiff, Nat.reduceEqDiff, Nat.reduceAdd, Nat.reduceSub, Nat.reduceMul, reduceIte, reduceCtorEq, h0] <;> rfl) | fail), (by first | (simp only [go_sem, Nat.reduceLT, Nat.reduceLeDiff, Nat.reduceEqDiff, Nat.reduceAdd, Nat.reduceSub, Nat.reduceMul, reduceIte, reduceCtorEq, h1] <;> rfl) | fail), (by first | (simp only [go_sem, Nat.reduceLT, Nat.reduceLeDiff, Nat.reduceEqDiff, Nat.reduceAdd, Nat.reduceSub, Nat.reduceMul, reduceIte, reduceCtorEq, h9] <;> rfl) | fail), (by first | (simp only [go_sem, Nat.reduceLT, Nat.reduceLeDiff, Nat.reduceEqDiff, Nat.reduceAdd, Nat.reduceSub, Nat.reduceMul, reduceIte, reduceCtorEq] <;> rfl) | fail), rfl⟩
                · have e1 : decide ((j : Int) < d.length) = false := by simp; omega
                  have hfj : run (fun c => !isIn [q] c) d (k3 + 1) = j := by rw [← hr]; exact run_end (by omega)
                  rw [hfj, if_neg hj] at hva
                  rw [hva]
                  repeat (first
                    | refine sk_seq ?_
                    | refine sk_region ?_
                    | refine sk_ops_nil ?_
                    | refine sk_draw_nil ?_
                    | refine sk_block ?_
                    | refine sk_blk ?_
                    | refine sk_skip ?_
                    | refine sk_exit rfl ?_
                    | refine sk_draw (id := 28) [0, 1, 2, 3, 4, 5, 6] mixed (by kernel_rfl) ?_
                    | ((first | (apply sk_r; rfl; rfl) | (apply sk_w; rfl; rfl) | (apply sk_i; rfl) | (apply sk_g; rfl; rfl) | (apply sk_dr; rfl; rfl; rfl) | (apply sk_dg; rfl; rfl; rfl; rfl; rfl) | apply drd_i); (simp only [go_sem, Nat.reduceLT, Nat.reduceLeDiff, Nat.reduceEqDiff, Nat.reduceAdd, Nat.reduceSub, Nat.reduceMul, reduceIte, reduceCtorEq, h0, h1, h9, h10, e1] <;> rfl); (first | refine sk_id ?_ | refine cs_t ?_ | refine cs_f ?_ | refine gs_t rfl ?_ | refine gs_f rfl ?_)))
                  exact sk_ret ⟨_, (by first | (simp only [aRet, Tryd.results23, aResults, aResult, go_sem, Nat.reduceLT, Nat.reduceLeDiff, Nat.reduceEqDiff, Nat.reduceAdd, Nat.reduceSub, Nat.reduceMul, reduceIte, reduceCtorEq] <;> rfl) | fail), by exact ⟨rfl, by trivial⟩⟩
              · have c7 : ((q : Int) == 34) = false := by simp; omega
                have c8 : ((q : Int) == 39) = true := by simp; omega
                repeat (first
                  | refine sk_seq ?_
                  | refine sk_region ?_
                  | refine sk_ops_nil ?_
                  | refine sk_draw_nil ?_
                  | refine sk_block ?_
                  | refine sk_blk ?_
                  | refine sk_skip ?_
                  | refine sk_exit rfl ?_
                  | refine sk_draw (id := 28) [0, 1, 2, 3, 4, 5, 6] mixed (by kernel_rfl) ?_
                  | ((first | (apply sk_r; rfl; rfl) | (apply sk_w; rfl; rfl) | (apply sk_i; rfl) | (apply sk_g; rfl; rfl) | (apply sk_dr; rfl; rfl; rfl) | (apply sk_dg; rfl; rfl; rfl; rfl; rfl) | apply drd_i); (simp only [go_sem, Nat.reduceLT, Nat.reduceLeDiff, Nat.reduceEqDiff, Nat.reduceAdd, Nat.reduceSub, Nat.reduceMul, reduceIte, reduceCtorEq, h0, h1, h9, c1, c2, c4, c6, c7, c8, hq] <;> rfl); (first | refine sk_id ?_ | refine cs_t ?_ | refine cs_f ?_ | refine gs_t rfl ?_ | refine gs_f rfl ?_)))
                refine sk_loop (fun m fr σ' => ∃ j, m = d.length - j ∧ k3 + 1 ≤ j ∧ j ≤ d.length ∧ run (fun c => !isIn [q] c) d j = run (fun c => !isIn [q] c) d (k3 + 1) ∧ fget fr 0 = .str d ∧ fget fr 1 = .int .i64 (k3 : Nat) ∧ fget fr 9 = .str NM ∧ fget fr 10 = .int .i64 (j : Nat) ∧ σ' = σ) _ ⟨k3 + 1, rfl, by omega, by omega, rfl, (by first | (simp only [go_sem, Nat.reduceLT, Nat.reduceLeDiff, Nat.reduceEqDiff, Nat.reduceAdd, Nat.reduceSub, Nat.reduceMul, reduceIte, reduceCtorEq, h0] <;> rfl) | fail), (by first | (simp only [go_sem, Nat.reduceLT, Nat.reduceLeDiff, Nat.reduceEqDiff, Nat.reduceAdd, Nat.reduceSub, Nat.reduceMul, reduceIte, reduceCtorEq, h1] <;> rfl) | fail), (by first | (simp only [go_sem, Nat.reduceLT, Nat.reduceLeDiff, Nat.reduceEqDiff, Nat.reduceAdd, Nat.reduceSub, Nat.reduceMul, reduceIte, reduceCtorEq, h9] <;> rfl) | fail), (by first | (simp only [go_sem, Nat.reduceLT, Nat.reduceLeDiff, Nat.reduceEqDiff, Nat.reduceAdd, Nat.reduceSub, Nat.reduceMul, reduceIte, reduceCtorEq] <;> rfl) | fail), rfl⟩ ?_
                rintro _ fr _ ⟨j, rfl, hj1, hj2, hr, h0, h1, h9, h10, rfl⟩
                by_cases hj : j < d.length
                · obtain ⟨y, hy⟩ := at_some hj
                  have e1 : decide ((j : Int) < d.length) = true := by simp; omega
                  have e2 : (0 : Int) ≤ (j : Int) := by omega
                  have e4 : IntKind.wrap .i64 ((j : Int) + 1) = ((j + 1 : Nat) : Int) := wrap_i64 (by omega) (by omega)
                  by_cases hyq : y = q
                  · have e5 : ((y : Int) == (q : Int)) = true := by simp; omega
                    have a1 : ((k3 + 1 : Nat) : Int) ≤ (j : Int) := by omega
                    have a2 : (j : Int) ≤ (d.length : Int) := by omega
                    have hfj : run (fun c => !isIn [q] c) d (k3 + 1) = j := by rw [← hr]; exact run_stop hy (isIn_yes (by simp [hyq]))
                    rw [hfj, if_pos hj] at hva
                    rw [hva]
                    repeat (first
                      | refine sk_seq ?_
                      | refine sk_region ?_
                      | refine sk_ops_nil ?_
                      | refine sk_draw_nil ?_
                      | refine sk_block ?_
                      | refine sk_blk ?_
                      | refine sk_skip ?_
                      | refine sk_exit rfl ?_
                      | refine sk_draw (id := 28) [0, 1, 2, 3, 4, 5, 6] mixed (by kernel_rfl) ?_
                      | ((first | (apply sk_r; rfl; rfl) | (apply sk_w; rfl; rfl) | (apply sk_i; rfl) | (apply sk_g; rfl; rfl) | (apply sk_dr; rfl; rfl; rfl) | (apply sk_dg; rfl; rfl; rfl; rfl; rfl) | apply drd_i); (simp only [go_sem, Nat.reduceLT, Nat.reduceLeDiff, Nat.reduceEqDiff, Nat.reduceAdd, Nat.reduceSub, Nat.reduceMul, reduceIte, reduceCtorEq, h0, h1, h9, h10, e1, e2, e4, e5, c2, c4, c5, a1, a2, and_self, hq, hy] <;> rfl); (first | refine sk_id ?_ | refine cs_t ?_ | refine cs_f ?_ | refine gs_t rfl ?_ | refine gs_f rfl ?_))
                      | ((first | (apply sk_c; rfl; rfl)); (simp only [go_sem, Nat.reduceLT, Nat.reduceLeDiff, Nat.reduceEqDiff, Nat.reduceAdd, Nat.reduceSub, Nat.reduceMul, reduceIte, reduceCtorEq, h0, h1, h9, h10, e1, e2, e4, e5, c2, c4, c5, a1, a2, and_self, hq, hy] <;> rfl); (first
                          | (refine (f24_tr _ (fun c hc => hd c (List.mem_of_mem_take (List.mem_of_mem_drop hc))) (by rw [List.length_drop, List.length_take]; omega) _).mono ?_; rintro _ τ2 ⟨rfl, hτ2⟩; rw [hτ2])); refine sk_id ?_))
                    exact sk_ret ⟨_, (by first | (simp only [aRet, Tryd.results23, aResults, aResult, go_sem, Nat.reduceLT, Nat.reduceLeDiff, Nat.reduceEqDiff, Nat.reduceAdd, Nat.reduceSub, Nat.reduceMul, reduceIte, reduceCtorEq] <;> rfl) | fail), by exact ⟨rfl, by trivial⟩⟩
                  · have e5 : ((y : Int) == (q : Int)) = false := by simp; omega
                    repeat (first
                      | refine sk_seq ?_
                      | refine sk_region ?_
                      | refine sk_ops_nil ?_
                      | refine sk_draw_nil ?_
                      | refine sk_block ?_
                      | refine sk_blk ?_
                      | refine sk_skip ?_
                      | refine sk_exit rfl ?_
                      | refine sk_draw (id := 28) [0, 1, 2, 3, 4, 5, 6] mixed (by kernel_rfl) ?_
                      | ((first | (apply sk_r; rfl; rfl) | (apply sk_w; rfl; rfl) | (apply sk_i; rfl) | (apply sk_g; rfl; rfl) | (apply sk_dr; rfl; rfl; rfl) | (apply sk_dg; rfl; rfl; rfl; rfl; rfl) | apply drd_i); (simp only [go_sem, Nat.reduceLT, Nat.reduceLeDiff, Nat.reduceEqDiff, Nat.reduceAdd, Nat.reduceSub, Nat.reduceMul, reduceIte, reduceCtorEq, h0, h1, h9, h10, e1, e2, e4, e5, c2, hq, hy] <;> rfl); (first | refine sk_id ?_ | refine cs_t ?_ | refine cs_f ?_ | refine gs_t rfl ?_ | refine gs_f rfl ?_)))
                    exact sk_stop ⟨d.length - (j + 1), by omega, j + 1, rfl, by omega, by omega, (run_step hy (isIn_not (by simp [hyq]))).symm.trans hr, (by first | (simp only [go_sem, Nat.reduceLT, Nat.reduceLeDiff, Nat.reduceEqDiff, Nat.reduceAdd, Nat.reduceSub, Nat.reduceMul, reduceIte, reduceCtorEq, h0] <;> rfl) | fail), (by first | (simp only [go_sem, Nat.reduceLT, Nat.reduceLeDiff, Nat.reduceEqDiff, Nat.reduceAdd, Nat.reduceSub, Nat.reduceMul, reduceIte, reduceCtorEq, h1] <;> rfl) | fail), (by first | (simp only [go_sem, Nat.reduceLT, Nat.reduceLeDiff, Nat.reduceEqDiff, Nat.reduceAdd, Nat.reduceSub, Nat.reduceMul, reduceIte, reduceCtorEq, h9] <;> rfl) | fail), (by first | (simp only [go_sem, Nat.reduceLT, Nat.reduceLeDiff, Nat.reduceEqDiff, Nat.reduceAdd, Nat.reduceSub, Nat.reduceMul, reduceIte, reduceCtorEq] <;> rfl) | fail), rfl⟩
                · have e1 : decide ((j : Int) < d.length) = false := by simp; omega
                  have hfj : run (fun c => !isIn [q] c) d (k3 + 1) = j := by rw [← hr]; exact run_end (by omega)
                  rw [hfj, if_neg hj] at hva
                  rw [hva]
                  repeat (first
                    | refine sk_seq ?_
                    | refine sk_region ?_
                    | refine sk_ops_nil ?_
                    | refine sk_draw_nil ?_
                    | refine sk_block ?_
                    | refine sk_blk ?_
                    | refine sk_skip ?_
                    | refine sk_exit rfl ?_
                    | refine sk_draw (id := 28) [0, 1, 2, 3, 4, 5, 6] mixed (by kernel_rfl) ?_
                    | ((first | (apply sk_r; rfl; rfl) | (apply sk_w; rfl; rfl) | (apply sk_i; rfl) | (apply sk_g; rfl; rfl) | (apply sk_dr; rfl; rfl; rfl) | (apply sk_dg; rfl; rfl; rfl; rfl; rfl) | apply drd_i); (simp only [go_sem, Nat.reduceLT, Nat.reduceLeDiff, Nat.reduceEqDiff, Nat.reduceAdd, Nat.reduceSub, Nat.reduceMul, reduceIte, reduceCtorEq, h0, h1, h9, h10, e1] <;> rfl); (first | refine sk_id ?_ | refine cs_t ?_ | refine cs_f ?_ | refine gs_t rfl ?_ | refine gs_f rfl ?_)))
                  exact sk_ret ⟨_, (by first | (simp only [aRet, Tryd.results23, aResults, aResult, go_sem, Nat.reduceLT, Nat.reduceLeDiff, Nat.reduceEqDiff, Nat.reduceAdd, Nat.reduceSub, Nat.reduceMul, reduceIte, reduceCtorEq] <;> rfl) | fail), by exact ⟨rfl, by trivial⟩⟩
            · by_cases h62' : q = 62
              · have hva : valueAt d k3 = some ([], k3) := by
                  unfold valueAt; rw [hq]; simp only; rw [if_neg hqq, if_pos h62']
                have c6 : ((q : Int) == 62) = true := by simp; omega
                rw [hva]
                repeat (first
                  | refine sk_seq ?_
                  | refine sk_region ?_
                  | refine sk_ops_nil ?_
                  | refine sk_draw_nil ?_
                  | refine sk_block ?_
                  | refine sk_blk ?_
                  | refine sk_skip ?_
                  | refine sk_exit rfl ?_
                  | refine sk_draw (id := 28) [0, 1, 2, 3, 4, 5, 6] mixed (by kernel_rfl) ?_
                  | ((first | (apply sk_r; rfl; rfl) | (apply sk_w; rfl; rfl) | (apply sk_i; rfl) | (apply sk_g; rfl; rfl) | (apply sk_dr; rfl; rfl; rfl) | (apply sk_dg; rfl; rfl; rfl; rfl; rfl) | apply drd_i); (simp only [go_sem, Nat.reduceLT, Nat.reduceLeDiff, Nat.reduceEqDiff, Nat.reduceAdd, Nat.reduceSub, Nat.reduceMul, reduceIte, reduceCtorEq, h0, h1, h9, c1, c2, c6, hq] <;> rfl); (first | refine sk_id ?_ | refine cs_t ?_ | refine cs_f ?_ | refine gs_t rfl ?_ | refine gs_f rfl ?_)))
                exact sk_ret ⟨_, (by first | (simp only [aRet, Tryd.results23, aResults, aResult, go_sem, Nat.reduceLT, Nat.reduceLeDiff, Nat.reduceEqDiff, Nat.reduceAdd, Nat.reduceSub, Nat.reduceMul, reduceIte, reduceCtorEq] <;> rfl) | fail), by exact ⟨rfl, by trivial⟩⟩
              · have hva : valueAt d k3 = if run (fun c => !isIn [62, 9, 10, 12, 13, 32] c) d k3 < d.length then some (((d.take (run (fun c => !isIn [62, 9, 10, 12, 13, 32] c) d k3)).drop k3).map low, run (fun c => !isIn [62, 9, 10, 12, 13, 32] c) d k3) else none := by
                  unfold valueAt; rw [hq]; simp only; rw [if_neg hqq, if_neg h62']
                have c6 : ((q : Int) == 62) = false := by simp; omega
                have c7 : ((q : Int) == 34) = false := by simp; omega
                have c8 : ((q : Int) == 39) = false := by simp; omega
                repeat (first
                  | refine sk_seq ?_
                  | refine sk_region ?_
                  | refine sk_ops_nil ?_
                  | refine sk_draw_nil ?_
                  | refine sk_block ?_
                  | refine sk_blk ?_
                  | refine sk_skip ?_
                  | refine sk_exit rfl ?_
                  | refine sk_draw (id := 28) [0, 1, 2, 3, 4, 5, 6] mixed (by kernel_rfl) ?_
                  | ((first | (apply sk_r; rfl; rfl) | (apply sk_w; rfl; rfl) | (apply sk_i; rfl) | (apply sk_g; rfl; rfl) | (apply sk_dr; rfl; rfl; rfl) | (apply sk_dg; rfl; rfl; rfl; rfl; rfl) | apply drd_i); (simp only [go_sem, Nat.reduceLT, Nat.reduceLeDiff, Nat.reduceEqDiff, Nat.reduceAdd, Nat.reduceSub, Nat.reduceMul, reduceIte, reduceCtorEq, h0, h1, h9, c1, c2, c6, c7, c8, hq] <;> rfl); (first | refine sk_id ?_ | refine cs_t ?_ | refine cs_f ?_ | refine gs_t rfl ?_ | refine gs_f rfl ?_)))
                refine sk_cut (fun fr σ' => σ' = σ ∧ fget fr 0 = .str d ∧ fget fr 1 = .int .i64 (run (fun c => !isIn [62, 9, 10, 12, 13, 32] c) d k3 : Nat) ∧ fget fr 8 = .int .i64 (k3 : Nat) ∧ fget fr 9 = .str NM) ?_ ?_
                · refine sk_loop (fun m fr σ' => ∃ j, m = d.length - j ∧ run (fun c => !isIn [62, 9, 10, 12, 13, 32] c) d j = run (fun c => !isIn [62, 9, 10, 12, 13, 32] c) d k3 ∧ fget fr 0 = .str d ∧ fget fr 1 = .int .i64 (j : Nat) ∧ fget fr 8 = .int .i64 (k3 : Nat) ∧ fget fr 9 = .str NM ∧ σ' = σ) _ ⟨k3, rfl, rfl, (by first | (simp only [go_sem, Nat.reduceLT, Nat.reduceLeDiff, Nat.reduceEqDiff, Nat.reduceAdd, Nat.reduceSub, Nat.reduceMul, reduceIte, reduceCtorEq, h0] <;> rfl) | fail), (by first | (simp only [go_sem, Nat.reduceLT, Nat.reduceLeDiff, Nat.reduceEqDiff, Nat.reduceAdd, Nat.reduceSub, Nat.reduceMul, reduceIte, reduceCtorEq, h1] <;> rfl) | fail), (by first | (simp only [go_sem, Nat.reduceLT, Nat.reduceLeDiff, Nat.reduceEqDiff, Nat.reduceAdd, Nat.reduceSub, Nat.reduceMul, reduceIte, reduceCtorEq, h1] <;> rfl) | fail), (by first | (simp only [go_sem, Nat.reduceLT, Nat.reduceLeDiff, Nat.reduceEqDiff, Nat.reduceAdd, Nat.reduceSub, Nat.reduceMul, reduceIte, reduceCtorEq, h9] <;> rfl) | fail), rfl⟩ ?_
                  rintro _ fr _ ⟨j, rfl, hr, h0, h1, h8, h9, rfl⟩
                  by_cases hj : j < d.length
                  · obtain ⟨y, hy⟩ := at_some hj
                    have e1 : decide ((j : Int) < d.length) = true := by simp; omega
                    have e2 : (0 : Int) ≤ (j : Int) := by omega
                    have e4 : IntKind.wrap .i64 ((j : Int) + 1) = ((j + 1 : Nat) : Int) := wrap_i64 (by omega) (by omega)
                    cases hb : isIn [9, 10, 12, 13, 32] y
                    · by_cases hy62 : y = 62
                      · have e5 : ((y : Int) != 62) = false := by simp; omega
                        repeat (first
                          | refine sk_seq ?_
                          | refine sk_region ?_
                          | refine sk_ops_nil ?_
                          | refine sk_draw_nil ?_
                          | refine sk_block ?_
                          | refine sk_blk ?_
                          | refine sk_skip ?_
                          | refine sk_exit rfl ?_
                          | refine sk_draw (id := 28) [0, 1, 2, 3, 4, 5, 6] mixed (by kernel_rfl) ?_
                          | ((first | (apply sk_r; rfl; rfl) | (apply sk_w; rfl; rfl) | (apply sk_i; rfl) | (apply sk_g; rfl; rfl) | (apply sk_dr; rfl; rfl; rfl) | (apply sk_dg; rfl; rfl; rfl; rfl; rfl) | apply drd_i); (simp only [go_sem, Nat.reduceLT, Nat.reduceLeDiff, Nat.reduceEqDiff, Nat.reduceAdd, Nat.reduceSub, Nat.reduceMul, reduceIte, reduceCtorEq, h0, h1, h8, h9, e1, e2, e4, e5, hy, hb] <;> rfl); (first | refine sk_id ?_ | refine cs_t ?_ | refine cs_f ?_ | refine gs_t rfl ?_ | refine gs_f rfl ?_))
                          | ((first | (apply sk_c; rfl; rfl)); (simp only [go_sem, Nat.reduceLT, Nat.reduceLeDiff, Nat.reduceEqDiff, Nat.reduceAdd, Nat.reduceSub, Nat.reduceMul, reduceIte, reduceCtorEq, h0, h1, h8, h9, e1, e2, e4, e5, hy, hb] <;> rfl); (first
                              | (refine (f20_tr _ _).mono ?_; rintro _ _ ⟨rfl, rfl⟩)); refine sk_id ?_))
                        exact sk_end ⟨rfl, (by first | (simp only [go_sem, Nat.reduceLT, Nat.reduceLeDiff, Nat.reduceEqDiff, Nat.reduceAdd, Nat.reduceSub, Nat.reduceMul, reduceIte, reduceCtorEq, h0] <;> rfl) | fail), by rw [← hr, run_stop hy (by rw [in_unq, hy62]; rfl)]; exact (by first | (simp only [go_sem, Nat.reduceLT, Nat.reduceLeDiff, Nat.reduceEqDiff, Nat.reduceAdd, Nat.reduceSub, Nat.reduceMul, reduceIte, reduceCtorEq, h1] <;> rfl) | fail), (by first | (simp only [go_sem, Nat.reduceLT, Nat.reduceLeDiff, Nat.reduceEqDiff, Nat.reduceAdd, Nat.reduceSub, Nat.reduceMul, reduceIte, reduceCtorEq, h8] <;> rfl) | fail), (by first | (simp only [go_sem, Nat.reduceLT, Nat.reduceLeDiff, Nat.reduceEqDiff, Nat.reduceAdd, Nat.reduceSub, Nat.reduceMul, reduceIte, reduceCtorEq, h9] <;> rfl) | fail)⟩
                      · have e5 : ((y : Int) != 62) = true := by simp; omega
                        repeat (first
                          | refine sk_seq ?_
                          | refine sk_region ?_
                          | refine sk_ops_nil ?_
                          | refine sk_draw_nil ?_
                          | refine sk_block ?_
                          | refine sk_blk ?_
                          | refine sk_skip ?_
                          | refine sk_exit rfl ?_
                          | refine sk_draw (id := 28) [0, 1, 2, 3, 4, 5, 6] mixed (by kernel_rfl) ?_
                          | ((first | (apply sk_r; rfl; rfl) | (apply sk_w; rfl; rfl) | (apply sk_i; rfl) | (apply sk_g; rfl; rfl) | (apply sk_dr; rfl; rfl; rfl) | (apply sk_dg; rfl; rfl; rfl; rfl; rfl) | apply drd_i); (simp only [go_sem, Nat.reduceLT, Nat.reduceLeDiff, Nat.reduceEqDiff, Nat.reduceAdd, Nat.reduceSub, Nat.reduceMul, reduceIte, reduceCtorEq, h0, h1, h8, h9, e1, e2, e4, e5, hy, hb] <;> rfl); (first | refine sk_id ?_ | refine cs_t ?_ | refine cs_f ?_ | refine gs_t rfl ?_ | refine gs_f rfl ?_))
                          | ((first | (apply sk_c; rfl; rfl)); (simp only [go_sem, Nat.reduceLT, Nat.reduceLeDiff, Nat.reduceEqDiff, Nat.reduceAdd, Nat.reduceSub, Nat.reduceMul, reduceIte, reduceCtorEq, h0, h1, h8, h9, e1, e2, e4, e5, hy, hb] <;> rfl); (first
                              | (refine (f20_tr _ _).mono ?_; rintro _ _ ⟨rfl, rfl⟩)); refine sk_id ?_))
                        exact sk_stop ⟨d.length - (j + 1), by omega, j + 1, rfl, (run_step hy (by rw [in_unq, hb]; simp [hy62])).symm.trans hr, (by first | (simp only [go_sem, Nat.reduceLT, Nat.reduceLeDiff, Nat.reduceEqDiff, Nat.reduceAdd, Nat.reduceSub, Nat.reduceMul, reduceIte, reduceCtorEq, h0] <;> rfl) | fail), (by first | (simp only [go_sem, Nat.reduceLT, Nat.reduceLeDiff, Nat.reduceEqDiff, Nat.reduceAdd, Nat.reduceSub, Nat.reduceMul, reduceIte, reduceCtorEq] <;> rfl) | fail), (by first | (simp only [go_sem, Nat.reduceLT, Nat.reduceLeDiff, Nat.reduceEqDiff, Nat.reduceAdd, Nat.reduceSub, Nat.reduceMul, reduceIte, reduceCtorEq, h8] <;> rfl) | fail), (by first | (simp only [go_sem, Nat.reduceLT, Nat.reduceLeDiff, Nat.reduceEqDiff, Nat.reduceAdd, Nat.reduceSub, Nat.reduceMul, reduceIte, reduceCtorEq, h9] <;> rfl) | fail), rfl⟩
                    · repeat (first
                        | refine sk_seq ?_
                        | refine sk_region ?_
                        | refine sk_ops_nil ?_
                        | refine sk_draw_nil ?_
                        | refine sk_block ?_
                        | refine sk_blk ?_
                        | refine sk_skip ?_
                        | refine sk_exit rfl ?_
                        | refine sk_draw (id := 28) [0, 1, 2, 3, 4, 5, 6] mixed (by kernel_rfl) ?_
                        | ((first | (apply sk_r; rfl; rfl) | (apply sk_w; rfl; rfl) | (apply sk_i; rfl) | (apply sk_g; rfl; rfl) | (apply sk_dr; rfl; rfl; rfl) | (apply sk_dg; rfl; rfl; rfl; rfl; rfl) | apply drd_i); (simp only [go_sem, Nat.reduceLT, Nat.reduceLeDiff, Nat.reduceEqDiff, Nat.reduceAdd, Nat.reduceSub, Nat.reduceMul, reduceIte, reduceCtorEq, h0, h1, h8, h9, e1, e2, e4, hy, hb] <;> rfl); (first | refine sk_id ?_ | refine cs_t ?_ | refine cs_f ?_ | refine gs_t rfl ?_ | refine gs_f rfl ?_))
                        | ((first | (apply sk_c; rfl; rfl)); (simp only [go_sem, Nat.reduceLT, Nat.reduceLeDiff, Nat.reduceEqDiff, Nat.reduceAdd, Nat.reduceSub, Nat.reduceMul, reduceIte, reduceCtorEq, h0, h1, h8, h9, e1, e2, e4, hy, hb] <;> rfl); (first
                            | (refine (f20_tr _ _).mono ?_; rintro _ _ ⟨rfl, rfl⟩)); refine sk_id ?_))
                      exact sk_end ⟨rfl, (by first | (simp only [go_sem, Nat.reduceLT, Nat.reduceLeDiff, Nat.reduceEqDiff, Nat.reduceAdd, Nat.reduceSub, Nat.reduceMul, reduceIte, reduceCtorEq, h0] <;> rfl) | fail), by rw [← hr, run_stop hy (by rw [in_unq, hb]; simp)]; exact (by first | (simp only [go_sem, Nat.reduceLT, Nat.reduceLeDiff, Nat.reduceEqDiff, Nat.reduceAdd, Nat.reduceSub, Nat.reduceMul, reduceIte, reduceCtorEq, h1] <;> rfl) | fail), (by first | (simp only [go_sem, Nat.reduceLT, Nat.reduceLeDiff, Nat.reduceEqDiff, Nat.reduceAdd, Nat.reduceSub, Nat.reduceMul, reduceIte, reduceCtorEq, h8] <;> rfl) | fail), (by first | (simp only [go_sem, Nat.reduceLT, Nat.reduceLeDiff, Nat.reduceEqDiff, Nat.reduceAdd, Nat.reduceSub, Nat.reduceMul, reduceIte, reduceCtorEq, h9] <;> rfl) | fail)⟩
                  · have e1 : decide ((j : Int) < d.length) = false := by simp; omega
                    repeat (first
                      | refine sk_seq ?_
                      | refine sk_region ?_
                      | refine sk_ops_nil ?_
                      | refine sk_draw_nil ?_
                      | refine sk_block ?_
                      | refine sk_blk ?_
                      | refine sk_skip ?_
                      | refine sk_exit rfl ?_
                      | refine sk_draw (id := 28) [0, 1, 2, 3, 4, 5, 6] mixed (by kernel_rfl) ?_
                      | ((first | (apply sk_r; rfl; rfl) | (apply sk_w; rfl; rfl) | (apply sk_i; rfl) | (apply sk_g; rfl; rfl) | (apply sk_dr; rfl; rfl; rfl) | (apply sk_dg; rfl; rfl; rfl; rfl; rfl) | apply drd_i); (simp only [go_sem, Nat.reduceLT, Nat.reduceLeDiff, Nat.reduceEqDiff, Nat.reduceAdd, Nat.reduceSub, Nat.reduceMul, reduceIte, reduceCtorEq, h0, h1, h8, h9, e1] <;> rfl); (first | refine sk_id ?_ | refine cs_t ?_ | refine cs_f ?_ | refine gs_t rfl ?_ | refine gs_f rfl ?_)))
                    exact sk_end ⟨rfl, (by first | (simp only [go_sem, Nat.reduceLT, Nat.reduceLeDiff, Nat.reduceEqDiff, Nat.reduceAdd, Nat.reduceSub, Nat.reduceMul, reduceIte, reduceCtorEq, h0] <;> rfl) | fail), by rw [← hr, run_end (by omega)]; exact (by first | (simp only [go_sem, Nat.reduceLT, Nat.reduceLeDiff, Nat.reduceEqDiff, Nat.reduceAdd, Nat.reduceSub, Nat.reduceMul, reduceIte, reduceCtorEq, h1] <;> rfl) | fail), (by first | (simp only [go_sem, Nat.reduceLT, Nat.reduceLeDiff, Nat.reduceEqDiff, Nat.reduceAdd, Nat.reduceSub, Nat.reduceMul, reduceIte, reduceCtorEq, h8] <;> rfl) | fail), (by first | (simp only [go_sem, Nat.reduceLT, Nat.reduceLeDiff, Nat.reduceEqDiff, Nat.reduceAdd, Nat.reduceSub, Nat.reduceMul, reduceIte, reduceCtorEq, h9] <;> rfl) | fail)⟩
                rintro fr τ ⟨hτ, h0, h1, h8, h9⟩
                rw [hτ]
                have hfge := run_ge (fun c => !isIn [62, 9, 10, 12, 13, 32] c) d k3
                have hfle : run (fun c => !isIn [62, 9, 10, 12, 13, 32] c) d k3 ≤ d.length := run_le (by omega)
                generalize run (fun c => !isIn [62, 9, 10, 12, 13, 32] c) d k3 = f at *
                by_cases hf : f < d.length
                · have e1 : ((f : Int) == (d.length : Int)) = false := by simp; omega
                  have a1 : (k3 : Int) ≤ (f : Int) := by omega
                  have a2 : (f : Int) ≤ (d.length : Int) := by omega
                  rw [hva, if_pos hf]
                  repeat (first
                    | refine sk_seq ?_
                    | refine sk_region ?_
                    | refine sk_ops_nil ?_
                    | refine sk_draw_nil ?_
                    | refine sk_block ?_
                    | refine sk_blk ?_
                    | refine sk_skip ?_
                    | refine sk_exit rfl ?_
                    | refine sk_draw (id := 28) [0, 1, 2, 3, 4, 5, 6] mixed (by kernel_rfl) ?_
                    | ((first | (apply sk_r; rfl; rfl) | (apply sk_w; rfl; rfl) | (apply sk_i; rfl) | (apply sk_g; rfl; rfl) | (apply sk_dr; rfl; rfl; rfl) | (apply sk_dg; rfl; rfl; rfl; rfl; rfl) | apply drd_i); (simp only [go_sem, Nat.reduceLT, Nat.reduceLeDiff, Nat.reduceEqDiff, Nat.reduceAdd, Nat.reduceSub, Nat.reduceMul, reduceIte, reduceCtorEq, h0, h1, h8, h9, e1, c2, a1, a2, and_self] <;> rfl); (first | refine sk_id ?_ | refine cs_t ?_ | refine cs_f ?_ | refine gs_t rfl ?_ | refine gs_f rfl ?_))
                    | ((first | (apply sk_c; rfl; rfl)); (simp only [go_sem, Nat.reduceLT, Nat.reduceLeDiff, Nat.reduceEqDiff, Nat.reduceAdd, Nat.reduceSub, Nat.reduceMul, reduceIte, reduceCtorEq, h0, h1, h8, h9, e1, c2, a1, a2, and_self] <;> rfl); (first
                        | (refine (f24_tr _ (fun c hc => hd c (List.mem_of_mem_take (List.mem_of_mem_drop hc))) (by rw [List.length_drop, List.length_take]; omega) _).mono ?_; rintro _ τ2 ⟨rfl, hτ2⟩; rw [hτ2])); refine sk_id ?_))
                  exact sk_ret ⟨_, (by first | (simp only [aRet, Tryd.results23, aResults, aResult, go_sem, Nat.reduceLT, Nat.reduceLeDiff, Nat.reduceEqDiff, Nat.reduceAdd, Nat.reduceSub, Nat.reduceMul, reduceIte, reduceCtorEq] <;> rfl) | fail), by exact ⟨rfl, by trivial⟩⟩
                · rw [hva, if_neg hf]
                  obtain rfl : f = d.length := by omega
                  have e1 : ((d.length : Int) == (d.length : Int)) = true := by simp
                  repeat (first
                    | refine sk_seq ?_
                    | refine sk_region ?_
                    | refine sk_ops_nil ?_
                    | refine sk_draw_nil ?_
                    | refine sk_block ?_
                    | refine sk_blk ?_
                    | refine sk_skip ?_
                    | refine sk_exit rfl ?_
                    | refine sk_draw (id := 28) [0, 1, 2, 3, 4, 5, 6] mixed (by kernel_rfl) ?_
                    | ((first | (apply sk_r; rfl; rfl) | (apply sk_w; rfl; rfl) | (apply sk_i; rfl) | (apply sk_g; rfl; rfl) | (apply sk_dr; rfl; rfl; rfl) | (apply sk_dg; rfl; rfl; rfl; rfl; rfl) | apply drd_i); (simp only [go_sem, Nat.reduceLT, Nat.reduceLeDiff, Nat.reduceEqDiff, Nat.reduceAdd, Nat.reduceSub, Nat.reduceMul, reduceIte, reduceCtorEq, h0, h1, h8, h9, e1] <;> rfl); (first | refine sk_id ?_ | refine cs_t ?_ | refine cs_f ?_ | refine gs_t rfl ?_ | refine gs_f rfl ?_)))
                  exact sk_ret ⟨_, (by first | (simp only [aRet, Tryd.results23, aResults, aResult, go_sem, Nat.reduceLT, Nat.reduceLeDiff, Nat.reduceEqDiff, Nat.reduceAdd, Nat.reduceSub, Nat.reduceMul, reduceIte, reduceCtorEq] <;> rfl) | fail), by exact ⟨rfl, by trivial⟩⟩
          · have c1 : ((k3 : Int) == (d.length : Int)) = true := by simp; omega
            have hva : valueAt d k3 = none := by unfold valueAt; rw [List.getElem?_eq_none (by omega)]
            rw [hva]
            obtain rfl : k3 = d.length := by omega
            repeat (first
              | refine sk_seq ?_
              | refine sk_region ?_
              | refine sk_ops_nil ?_
              | refine sk_draw_nil ?_
              | refine sk_block ?_
              | refine sk_blk ?_
              | refine sk_skip ?_
              | refine sk_exit rfl ?_
              | refine sk_draw (id := 28) [0, 1, 2, 3, 4, 5, 6] mixed (by kernel_rfl) ?_
              | ((first | (apply sk_r; rfl; rfl) | (apply sk_w; rfl; rfl) | (apply sk_i; rfl) | (apply sk_g; rfl; rfl) | (apply sk_dr; rfl; rfl; rfl) | (apply sk_dg; rfl; rfl; rfl; rfl; rfl) | apply drd_i); (simp only [go_sem, Nat.reduceLT, Nat.reduceLeDiff, Nat.reduceEqDiff, Nat.reduceAdd, Nat.reduceSub, Nat.reduceMul, reduceIte, reduceCtorEq, h0, h1, h9, c1] <;> rfl); (first | refine sk_id ?_ | refine cs_t ?_ | refine cs_f ?_ | refine gs_t rfl ?_ | refine gs_f rfl ?_)))
            exact sk_ret ⟨_, (by first | (simp only [aRet, Tryd.results23, aResults, aResult, go_sem, Nat.reduceLT, Nat.reduceLeDiff, Nat.reduceEqDiff, Nat.reduceAdd, Nat.reduceSub, Nat.reduceMul, reduceIte, reduceCtorEq] <;> rfl) | fail), by exact ⟨rfl, by trivial⟩⟩
        · have b3 : ((y : Int) != 61) = true := by simp; omega
          rw [if_neg (by rw [hy]; simp; omega)]
          repeat (first
            | refine sk_seq ?_
            | refine sk_region ?_
            | refine sk_ops_nil ?_
            | refine sk_draw_nil ?_
            | refine sk_block ?_
            | refine sk_blk ?_
            | refine sk_skip ?_
            | refine sk_exit rfl ?_
            | refine sk_draw (id := 28) [0, 1, 2, 3, 4, 5, 6] mixed (by kernel_rfl) ?_
            | ((first | (apply sk_r; rfl; rfl) | (apply sk_w; rfl; rfl) | (apply sk_i; rfl) | (apply sk_g; rfl; rfl) | (apply sk_dr; rfl; rfl; rfl) | (apply sk_dg; rfl; rfl; rfl; rfl; rfl) | apply drd_i); (simp only [go_sem, Nat.reduceLT, Nat.reduceLeDiff, Nat.reduceEqDiff, Nat.reduceAdd, Nat.reduceSub, Nat.reduceMul, reduceIte, reduceCtorEq, h0, h1, h9, b1, b2, b3, hy] <;> rfl); (first | refine sk_id ?_ | refine cs_t ?_ | refine cs_f ?_ | refine gs_t rfl ?_ | refine gs_f rfl ?_)))
          exact sk_ret ⟨_, (by first | (simp only [aRet, Tryd.results23, aResults, aResult, go_sem, Nat.reduceLT, Nat.reduceLeDiff, Nat.reduceEqDiff, Nat.reduceAdd, Nat.reduceSub, Nat.reduceMul, reduceIte, reduceCtorEq] <;> rfl) | fail), by exact ⟨rfl, by trivial⟩⟩
      · have b1 : ((k2 : Int) == (d.length : Int)) = true := by simp; omega
        rw [if_neg (by rw [List.getElem?_eq_none (by omega)]; simp)]
        repeat (first
          | refine sk_seq ?_
          | refine sk_region ?_
          | refine sk_ops_nil ?_
          | refine sk_draw_nil ?_
          | refine sk_block ?_
          | refine sk_blk ?_
          | refine sk_skip ?_
          | refine sk_exit rfl ?_
          | refine sk_draw (id := 28) [0, 1, 2, 3, 4, 5, 6] mixed (by kernel_rfl) ?_
          | ((first | (apply sk_r; rfl; rfl) | (apply sk_w; rfl; rfl) | (apply sk_i; rfl) | (apply sk_g; rfl; rfl) | (apply sk_dr; rfl; rfl; rfl) | (apply sk_dg; rfl; rfl; rfl; rfl; rfl) | apply drd_i); (simp only [go_sem, Nat.reduceLT, Nat.reduceLeDiff, Nat.reduceEqDiff, Nat.reduceAdd, Nat.reduceSub, Nat.reduceMul, reduceIte, reduceCtorEq, h0, h1, h9, b1] <;> rfl); (first | refine sk_id ?_ | refine cs_t ?_ | refine cs_f ?_ | refine gs_t rfl ?_ | refine gs_f rfl ?_)))
        exact sk_ret ⟨_, (by first | (simp only [aRet, Tryd.results23, aResults, aResult, go_sem, Nat.reduceLT, Nat.reduceLeDiff, Nat.reduceEqDiff, Nat.reduceAdd, Nat.reduceSub, Nat.reduceMul, reduceIte, reduceCtorEq] <;> rfl) | fail), by exact ⟨rfl, by trivial⟩⟩
    · rw [List.getElem?_eq_none (by omega)]
      have hnle : n ≤ d.length := by rw [← hn]; exact run_le (by omega)
      refine sk_loop (fun m fr σ' => ∃ j, m = d.length - j ∧ k1 ≤ j ∧ j ≤ d.length ∧ (k1 < j → nameEnd d j = n) ∧ fget fr 0 = .str d ∧ fget fr 1 = .int .i64 (j : Nat) ∧ fget fr 8 = .int .i64 (k1 : Nat) ∧ σ' = σ) _ ⟨k1, rfl, by omega, by omega, fun h => absurd h (by omega), (by first | (simp only [go_sem, Nat.reduceLT, Nat.reduceLeDiff, Nat.reduceEqDiff, Nat.reduceAdd, Nat.reduceSub, Nat.reduceMul, reduceIte, reduceCtorEq, h0] <;> rfl) | fail), (by first | (simp only [go_sem, Nat.reduceLT, Nat.reduceLeDiff, Nat.reduceEqDiff, Nat.reduceAdd, Nat.reduceSub, Nat.reduceMul, reduceIte, reduceCtorEq, h1] <;> rfl) | fail), (by first | (simp only [go_sem, Nat.reduceLT, Nat.reduceLeDiff, Nat.reduceEqDiff, Nat.reduceAdd, Nat.reduceSub, Nat.reduceMul, reduceIte, reduceCtorEq, h1] <;> rfl) | fail), rfl⟩ ?_
      rintro _ fr _ ⟨j, rfl, hkj, hjl, hr, h0, h1, h8, rfl⟩
      by_cases hj : j < d.length
      · obtain ⟨y, hy⟩ := at_some hj
        have f1 : ((j : Int) == (d.length : Int)) = false := by simp; omega
        have f2 : (0 : Int) ≤ (j : Int) := by omega
        have f3 : IntKind.wrap .i64 ((j : Int) + 1) = ((j + 1 : Nat) : Int) := wrap_i64 (by omega) (by omega)
        by_cases hkj2 : k1 < j
        · have f4 : decide ((j : Int) > k1) = true := by simp; omega
          have hin : isIn [61, 47, 62, 9, 10, 12, 13, 32] y = false := by
            cases hin : isIn [61, 47, 62, 9, 10, 12, 13, 32] y
            · rfl
            · have := hr hkj2
              rw [nameEnd, run_stop hy (by rw [hin]; rfl)] at this
              omega
          have hin2 := hin
          rw [in_name] at hin2
          simp only [Bool.or_eq_false_iff, decide_eq_false_iff_not] at hin2
          obtain ⟨⟨⟨i1, i2⟩, i3⟩, hb⟩ := hin2
          have g1 : ((y : Int) == 61) = false := by simp; omega
          have g2 : ((y : Int) == 47) = false := by simp; omega
          have g3 : ((y : Int) == 62) = false := by simp; omega
          repeat (first
            | refine sk_seq ?_
            | refine sk_region ?_
            | refine sk_ops_nil ?_
            | refine sk_draw_nil ?_
            | refine sk_block ?_
            | refine sk_blk ?_
            | refine sk_skip ?_
            | refine sk_exit rfl ?_
            | refine sk_draw (id := 28) [0, 1, 2, 3, 4, 5, 6] mixed (by kernel_rfl) ?_
            | ((first | (apply sk_r; rfl; rfl) | (apply sk_w; rfl; rfl) | (apply sk_i; rfl) | (apply sk_g; rfl; rfl) | (apply sk_dr; rfl; rfl; rfl) | (apply sk_dg; rfl; rfl; rfl; rfl; rfl) | apply drd_i); (simp only [go_sem, Nat.reduceLT, Nat.reduceLeDiff, Nat.reduceEqDiff, Nat.reduceAdd, Nat.reduceSub, Nat.reduceMul, reduceIte, reduceCtorEq, h0, h1, h8, f1, f2, f3, f4, hy, g1, g2, g3, hb] <;> rfl); (first | refine sk_id ?_ | refine cs_t ?_ | refine cs_f ?_ | refine gs_t rfl ?_ | refine gs_f rfl ?_))
            | ((first | (apply sk_c; rfl; rfl)); (simp only [go_sem, Nat.reduceLT, Nat.reduceLeDiff, Nat.reduceEqDiff, Nat.reduceAdd, Nat.reduceSub, Nat.reduceMul, reduceIte, reduceCtorEq, h0, h1, h8, f1, f2, f3, f4, hy, g1, g2, g3, hb] <;> rfl); (first
                | (refine (f20_tr _ _).mono ?_; rintro _ _ ⟨rfl, rfl⟩)); refine sk_id ?_))
          exact sk_stop ⟨d.length - (j + 1), by omega, j + 1, rfl, by omega, by omega, fun _ => (run_step hy (by rw [hin]; rfl)).symm.trans (hr hkj2), (by first | (simp only [go_sem, Nat.reduceLT, Nat.reduceLeDiff, Nat.reduceEqDiff, Nat.reduceAdd, Nat.reduceSub, Nat.reduceMul, reduceIte, reduceCtorEq, h0] <;> rfl) | fail), (by first | (simp only [go_sem, Nat.reduceLT, Nat.reduceLeDiff, Nat.reduceEqDiff, Nat.reduceAdd, Nat.reduceSub, Nat.reduceMul, reduceIte, reduceCtorEq] <;> rfl) | fail), (by first | (simp only [go_sem, Nat.reduceLT, Nat.reduceLeDiff, Nat.reduceEqDiff, Nat.reduceAdd, Nat.reduceSub, Nat.reduceMul, reduceIte, reduceCtorEq, h8] <;> rfl) | fail), rfl⟩
        · have f4 : decide ((j : Int) > k1) = false := by simp; omega
          repeat (first
            | refine sk_seq ?_
            | refine sk_region ?_
            | refine sk_ops_nil ?_
            | refine sk_draw_nil ?_
            | refine sk_block ?_
            | refine sk_blk ?_
            | refine sk_skip ?_
            | refine sk_exit rfl ?_
            | refine sk_draw (id := 28) [0, 1, 2, 3, 4, 5, 6] mixed (by kernel_rfl) ?_
            | ((first | (apply sk_r; rfl; rfl) | (apply sk_w; rfl; rfl) | (apply sk_i; rfl) | (apply sk_g; rfl; rfl) | (apply sk_dr; rfl; rfl; rfl) | (apply sk_dg; rfl; rfl; rfl; rfl; rfl) | apply drd_i); (simp only [go_sem, Nat.reduceLT, Nat.reduceLeDiff, Nat.reduceEqDiff, Nat.reduceAdd, Nat.reduceSub, Nat.reduceMul, reduceIte, reduceCtorEq, h0, h1, h8, f1, f2, f3, f4, hy] <;> rfl); (first | refine sk_id ?_ | refine cs_t ?_ | refine cs_f ?_ | refine gs_t rfl ?_ | refine gs_f rfl ?_)))
          exact sk_stop ⟨d.length - (j + 1), by omega, j + 1, rfl, by omega, by omega, fun _ => by (rw [← hn]; congr 1; omega), (by first | (simp only [go_sem, Nat.reduceLT, Nat.reduceLeDiff, Nat.reduceEqDiff, Nat.reduceAdd, Nat.reduceSub, Nat.reduceMul, reduceIte, reduceCtorEq, h0] <;> rfl) | fail), (by first | (simp only [go_sem, Nat.reduceLT, Nat.reduceLeDiff, Nat.reduceEqDiff, Nat.reduceAdd, Nat.reduceSub, Nat.reduceMul, reduceIte, reduceCtorEq] <;> rfl) | fail), (by first | (simp only [go_sem, Nat.reduceLT, Nat.reduceLeDiff, Nat.reduceEqDiff, Nat.reduceAdd, Nat.reduceSub, Nat.reduceMul, reduceIte, reduceCtorEq, h8] <;> rfl) | fail), rfl⟩
      · have f1 : ((j : Int) == (d.length : Int)) = true := by simp; omega
        obtain rfl : j = d.length := by omega
        repeat (first
          | refine sk_seq ?_
          | refine sk_region ?_
          | refine sk_ops_nil ?_
          | refine sk_draw_nil ?_
          | refine sk_block ?_
          | refine sk_blk ?_
          | refine sk_skip ?_
          | refine sk_exit rfl ?_
          | refine sk_draw (id := 28) [0, 1, 2, 3, 4, 5, 6] mixed (by kernel_rfl) ?_
          | ((first | (apply sk_r; rfl; rfl) | (apply sk_w; rfl; rfl) | (apply sk_i; rfl) | (apply sk_g; rfl; rfl) | (apply sk_dr; rfl; rfl; rfl) | (apply sk_dg; rfl; rfl; rfl; rfl; rfl) | apply drd_i); (simp only [go_sem, Nat.reduceLT, Nat.reduceLeDiff, Nat.reduceEqDiff, Nat.reduceAdd, Nat.reduceSub, Nat.reduceMul, reduceIte, reduceCtorEq, h0, h1, h8, f1] <;> rfl); (first | refine sk_id ?_ | refine cs_t ?_ | refine cs_f ?_ | refine gs_t rfl ?_ | refine gs_f rfl ?_)))
        exact sk_ret ⟨_, (by first | (simp only [aRet, Tryd.results23, aResults, aResult, go_sem, Nat.reduceLT, Nat.reduceLeDiff, Nat.reduceEqDiff, Nat.reduceAdd, Nat.reduceSub, Nat.reduceMul, reduceIte, reduceCtorEq] <;> rfl) | fail), by exact ⟨rfl, by trivial⟩⟩
  · rw [List.getElem?_eq_none (by omega)]
    obtain rfl : k1 = d.length := by omega
    have e1 : ((d.length : Int) == (d.length : Int)) = true := by simp
    repeat (first
      | refine sk_seq ?_
      | refine sk_region ?_
      | refine sk_ops_nil ?_
      | refine sk_draw_nil ?_
      | refine sk_block ?_
      | refine sk_blk ?_
      | refine sk_skip ?_
      | refine sk_exit rfl ?_
      | refine sk_draw (id := 28) [0, 1, 2, 3, 4, 5, 6] mixed (by kernel_rfl) ?_
      | ((first | (apply sk_r; rfl; rfl) | (apply sk_w; rfl; rfl) | (apply sk_i; rfl) | (apply sk_g; rfl; rfl) | (apply sk_dr; rfl; rfl; rfl) | (apply sk_dg; rfl; rfl; rfl; rfl; rfl) | apply drd_i); (simp only [go_sem, Nat.reduceLT, Nat.reduceLeDiff, Nat.reduceEqDiff, Nat.reduceAdd, Nat.reduceSub, Nat.reduceMul, reduceIte, reduceCtorEq, h0, h1, e1] <;> rfl); (first | refine sk_id ?_ | refine cs_t ?_ | refine cs_f ?_ | refine gs_t rfl ?_ | refine gs_f rfl ?_)))
    exact sk_ret ⟨_, (by first | (simp only [aRet, Tryd.results23, aResults, aResult, go_sem, Nat.reduceLT, Nat.reduceLeDiff, Nat.reduceEqDiff, Nat.reduceAdd, Nat.reduceSub, Nat.reduceMul, reduceIte, reduceCtorEq] <;> rfl) | fail), by exact ⟨rfl, by trivial⟩⟩
end Go.Proofs.YtophnlmdcidolaaDoor
