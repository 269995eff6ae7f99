import Derived.Test.YtophnlmdcidolaaDoorP10
import Derived.Test.YtophnlmdcidolaaDoorJ2
set_option linter.all false
namespace Go.Am
theorem stands_pre {s w : List Nat} {k : Nat} (hk : k ≤ s.length) : standsAt s k w = w.isPrefixOf ((s.drop k).map low) := by
  unfold standsAt
  rw [Bool.eq_iff_iff, Bool.and_eq_true, decide_eq_true_eq, decide_eq_true_eq, List.isPrefixOf_iff_prefix, List.prefix_iff_eq_take]
  rw [List.drop_take, show k + w.length - k = w.length by omega, List.map_take]
  constructor
  · rintro ⟨_, h⟩; exact h.symm
  · intro h
    have hl := congrArg List.length h
    simp only [List.length_take, List.length_map, List.length_drop] at hl
    refine ⟨?_, h.symm⟩
    omega
theorem dw_run (q : Nat → Bool) (s : List Nat) (p : Nat) : (s.drop p).dropWhile q = s.drop (run q s p) := by
  rw [dw_drop, List.drop_drop]; rfl
theorem run_cons (q : Nat → Bool) (b : Nat) (l : List Nat) : run q (b :: l) 0 = if q b = true then run q l 0 + 1 else 0 := by
  unfold run
  simp only [List.drop_zero]
  split
  · rename_i h; rw [List.takeWhile_cons_of_pos h]; simp
  · rename_i h; rw [List.takeWhile_cons_of_neg h]; rfl
theorem indexN_one (q : Nat) : ∀ l : List Nat, indexN l [q] = firstIn [q] l
  | [] => rfl
  | b :: l => by
    have ih := indexN_one q l
    unfold indexN
    unfold firstIn at ih ⊢
    rw [run_cons]
    by_cases h : b = q
    · have h1 : [q].isPrefixOf (b :: l) = true := by simp [List.isPrefixOf, h]
      have h2 : isIn [q] b = true := (isIn_iff _ _).2 (by simp [h])
      rw [if_pos h1, h2]
      simp
    · have h1 : [q].isPrefixOf (b :: l) = false := by simp [List.isPrefixOf]; exact fun e => h e.symm
      have h2 : isIn [q] b = false := by
        cases e : isIn [q] b
        · rfl
        · exact absurd ((isIn_iff _ _).1 e) (by simp [h])
      rw [if_neg (by rw [h1]; simp), h2]
      by_cases h3 : run (fun c => !isIn [q] c) l 0 < l.length
      · rw [if_pos h3] at ih
        rw [ih, if_neg (by simp)]
        simp only [Bool.not_false, if_true, List.length_cons]
        rw [if_pos (by omega)]
        try rfl
      · rw [if_neg h3] at ih
        rw [ih, if_pos (by decide)]
        simp only [Bool.not_false, if_true, List.length_cons]
        rw [if_neg (by omega)]
end Go.Am
namespace Go.Proofs.YtophnlmdcidolaaDoor
open Go Go.Am
set_option maxHeartbeats 8000000
set_option maxRecDepth 100000
theorem isIn6 (c : Nat) : isIn S6 c = (isIn B5 c || decide (c = 59)) := by
  rw [Bool.eq_iff_iff, isIn_iff, Bool.or_eq_true, isIn_iff, decide_eq_true_eq]
  simp only [List.mem_cons, List.not_mem_nil, or_false]
  omega
theorem f38_tr (s : List Nat) (hd : ∀ c ∈ s, c < 256) (hn : s.length ≤ 1000000) (σ : AHeap) :
    Tr Tryd.prog 38 [.str s] σ fun v σ' => v = nameAV (charsetOf s) ∧ σ' = σ := by
  refine sk_body (m := 119) Tryd.func38 rfl (by decide) rfl ?_
  have kW : bytesOf { data := #[99, 104, 97, 114, 115, 101, 116] } = W7 := rfl
  repeat (first
    | refine sk_seq ?_
    | refine sk_region ?_
    | refine sk_ops_nil ?_
    | refine sk_draw_nil ?_
    | refine sk_block ?_
    | refine sk_blk ?_
    | refine sk_skip ?_
    | refine sk_exit rfl ?_
    | refine sk_draw (id := 20) [0, 1, 2, 3, 4, 5, 6] mixed (by kernel_rfl) ?_
    | ((first | (apply sk_r; rfl; rfl) | (apply sk_w; rfl; rfl) | (apply sk_i; rfl) | (apply sk_g; rfl; rfl) | (apply sk_dr; rfl; rfl; rfl) | (apply sk_dg; rfl; rfl; rfl; rfl; rfl) | apply drd_i); (simp only [go_sem, Nat.reduceLT, Nat.reduceLeDiff, Nat.reduceEqDiff, Nat.reduceAdd, Nat.reduceSub, Nat.reduceMul, reduceIte, reduceCtorEq] <;> rfl); (first | refine sk_id ?_ | refine cs_t ?_ | refine cs_f ?_ | refine gs_t rfl ?_ | refine gs_f rfl ?_)))
  refine sk_cut (fun fr σ' => σ' = σ ∧ ∃ p, p ≤ s.length ∧ csGo (s.length + 1) s = some (s.drop (run (isIn B5) s p)) ∧ fget fr 0 = .str s ∧ fget fr 4 = .int .i64 (p : Nat)) ?_ ?_
  · refine sk_loop (fun m fr σ' => ∃ f p, m = f ∧ p ≤ s.length ∧ s.length - p < f ∧ csGo f (s.drop p) = csGo (s.length + 1) s ∧ σ' = σ ∧ fget fr 0 = .str s ∧ fget fr 4 = .int .i64 (p : Nat)) _
      ⟨s.length + 1, 0, rfl, Nat.zero_le _, by omega, rfl, rfl, (by first | (simp only [go_sem, Nat.reduceLT, Nat.reduceLeDiff, Nat.reduceEqDiff, Nat.reduceAdd, Nat.reduceSub, Nat.reduceMul, reduceIte, reduceCtorEq] <;> rfl) | fail), (by first | (simp only [go_sem, Nat.reduceLT, Nat.reduceLeDiff, Nat.reduceEqDiff, Nat.reduceAdd, Nat.reduceSub, Nat.reduceMul, reduceIte, reduceCtorEq] <;> rfl) | fail)⟩ ?_
    rintro f fr τ ⟨_, p, rfl, hp, hf, hR, hτ, h0, h4⟩
    rw [hτ]
    obtain ⟨f, rfl⟩ : ∃ g, f = g + 1 := ⟨f - 1, by omega⟩
    -- where the word stands first
    obtain ⟨T, hpT, hTl, hno, hT⟩ : ∃ T, p ≤ T ∧ T ≤ s.length ∧ (∀ k, p ≤ k → k < T → standsAt s k W7 = false) ∧
        ((T = s.length ∧ indexN ((s.drop p).map low) W7 = -1) ∨ (T + 7 ≤ s.length ∧ standsAt s T W7 = true ∧ indexN ((s.drop p).map low) W7 = ((T - p : Nat) : Int))) := by
      rcases indexN_spec ((s.drop p).map low) W7 with ⟨h1, h2⟩ | ⟨i, h1, h2, h3, h5⟩
      · refine ⟨s.length, hp, Nat.le_refl _, fun k hk hk2 => ?_, .inl ⟨rfl, h1⟩⟩
        rw [stands_pre (by omega)]
        have := h2 (k - p) (by rw [List.length_map, List.length_drop]; omega)
        rw [← List.map_drop, List.drop_drop, show p + (k - p) = k by omega] at this
        exact this
      · have hl := (pre_take h3).1
        simp only [List.length_drop, List.length_map, List.length_cons, List.length_nil] at hl
        refine ⟨p + i, by omega, by omega, fun k hk hk2 => ?_, .inr ⟨by omega, ?_, by rw [h1]; congr 1; omega⟩⟩
        · rw [stands_pre (by omega)]
          have := h5 (k - p) (by omega)
          rw [← List.map_drop, List.drop_drop, show p + (k - p) = k by omega] at this
          exact this
        · rw [stands_pre (by omega)]
          rw [← List.map_drop, List.drop_drop] at h3
          exact h3
    repeat (first
      | refine sk_seq ?_
      | refine sk_region ?_
      | refine sk_ops_nil ?_
      | refine sk_draw_nil ?_
      | refine sk_block ?_
      | refine sk_blk ?_
      | refine sk_skip ?_
      | refine sk_exit rfl ?_
      | refine sk_draw (id := 20) [0, 1, 2, 3, 4, 5, 6] mixed (by kernel_rfl) ?_
      | ((first | (apply sk_r; rfl; rfl) | (apply sk_w; rfl; rfl) | (apply sk_i; rfl) | (apply sk_g; rfl; rfl) | (apply sk_dr; rfl; rfl; rfl) | (apply sk_dg; rfl; rfl; rfl; rfl; rfl) | apply drd_i); (simp only [go_sem, Nat.reduceLT, Nat.reduceLeDiff, Nat.reduceEqDiff, Nat.reduceAdd, Nat.reduceSub, Nat.reduceMul, reduceIte, reduceCtorEq] <;> rfl); (first | refine sk_id ?_ | refine cs_t ?_ | refine cs_f ?_ | refine gs_t rfl ?_ | refine gs_f rfl ?_)))
    refine sk_cut (fun fr σ' => σ' = σ ∧ fget fr 0 = .str s ∧ fget fr 4 = .int .i64 (T : Nat)) ?_ ?_
    · refine sk_loop (fun m fr σ' => ∃ k, m = T - k ∧ p ≤ k ∧ k ≤ T ∧ σ' = σ ∧ fget fr 0 = .str s ∧ fget fr 4 = .int .i64 (k : Nat)) _
        ⟨p, rfl, Nat.le_refl _, hpT, rfl, h0, h4⟩ ?_
      clear h0 h4 hτ
      rintro _ fr τ ⟨k, rfl, hk, hkT, hτ, h0, h4⟩
      rw [hτ]
      have e4 : IntKind.wrap .i64 ((k : Int) + 1) = ((k + 1 : Nat) : Int) := wrap_i64 (by omega) (by omega)
      have s19 := fun σ => f19_tr s W7 k hd hn (by omega) (by decide) σ
      by_cases hkl : k < s.length
      · have e1 : decide ((k : Int) < (s.length : Int)) = true := decide_eq_true (by omega)
        by_cases hlt : k < T
        · rw [hno k hk hlt] at s19
          repeat (first
            | refine sk_seq ?_
            | refine sk_region ?_
            | refine sk_ops_nil ?_
            | refine sk_draw_nil ?_
            | refine sk_block ?_
            | refine sk_blk ?_
            | refine sk_skip ?_
            | refine sk_exit rfl ?_
            | refine sk_draw (id := 20) [0, 1, 2, 3, 4, 5, 6] mixed (by kernel_rfl) ?_
            | ((first | (apply sk_r; rfl; rfl) | (apply sk_w; rfl; rfl) | (apply sk_i; rfl) | (apply sk_g; rfl; rfl) | (apply sk_dr; rfl; rfl; rfl) | (apply sk_dg; rfl; rfl; rfl; rfl; rfl) | apply drd_i); (simp only [go_sem, Nat.reduceLT, Nat.reduceLeDiff, Nat.reduceEqDiff, Nat.reduceAdd, Nat.reduceSub, Nat.reduceMul, reduceIte, reduceCtorEq, h0, h4, e1, e4] <;> rfl); (first | refine sk_id ?_ | refine cs_t ?_ | refine cs_f ?_ | refine gs_t rfl ?_ | refine gs_f rfl ?_))
            | ((first | (apply sk_c; rfl; rfl)); (simp only [go_sem, Nat.reduceLT, Nat.reduceLeDiff, Nat.reduceEqDiff, Nat.reduceAdd, Nat.reduceSub, Nat.reduceMul, reduceIte, reduceCtorEq, h0, h4, e1, e4] <;> rfl); (first
                | (refine (s19 _).mono ?_; rintro _ τ2 ⟨rfl, hτ2⟩; rw [hτ2])); refine sk_id ?_))
          exact sk_stop ⟨T - (k + 1), by omega, k + 1, rfl, by omega, by omega, rfl, (by first | (simp only [go_sem, Nat.reduceLT, Nat.reduceLeDiff, Nat.reduceEqDiff, Nat.reduceAdd, Nat.reduceSub, Nat.reduceMul, reduceIte, reduceCtorEq, h0] <;> rfl) | fail), (by first | (simp only [go_sem, Nat.reduceLT, Nat.reduceLeDiff, Nat.reduceEqDiff, Nat.reduceAdd, Nat.reduceSub, Nat.reduceMul, reduceIte, reduceCtorEq] <;> rfl) | fail)⟩
        · have hkT : k = T := by omega
          subst hkT
          rcases hT with ⟨hT, _⟩ | ⟨_, hT, _⟩
          · omega
          · rw [hT] at s19
            repeat (first
              | refine sk_seq ?_
              | refine sk_region ?_
              | refine sk_ops_nil ?_
              | refine sk_draw_nil ?_
              | refine sk_block ?_
              | refine sk_blk ?_
              | refine sk_skip ?_
              | refine sk_exit rfl ?_
              | refine sk_draw (id := 20) [0, 1, 2, 3, 4, 5, 6] mixed (by kernel_rfl) ?_
              | ((first | (apply sk_r; rfl; rfl) | (apply sk_w; rfl; rfl) | (apply sk_i; rfl) | (apply sk_g; rfl; rfl) | (apply sk_dr; rfl; rfl; rfl) | (apply sk_dg; rfl; rfl; rfl; rfl; rfl) | apply drd_i); (simp only [go_sem, Nat.reduceLT, Nat.reduceLeDiff, Nat.reduceEqDiff, Nat.reduceAdd, Nat.reduceSub, Nat.reduceMul, reduceIte, reduceCtorEq, h0, h4, e1, e4] <;> rfl); (first | refine sk_id ?_ | refine cs_t ?_ | refine cs_f ?_ | refine gs_t rfl ?_ | refine gs_f rfl ?_))
              | ((first | (apply sk_c; rfl; rfl)); (simp only [go_sem, Nat.reduceLT, Nat.reduceLeDiff, Nat.reduceEqDiff, Nat.reduceAdd, Nat.reduceSub, Nat.reduceMul, reduceIte, reduceCtorEq, h0, h4, e1, e4] <;> rfl); (first
                  | (refine (s19 _).mono ?_; rintro _ τ2 ⟨rfl, hτ2⟩; rw [hτ2])); refine sk_id ?_))
            exact sk_end ⟨rfl, (by first | (simp only [go_sem, Nat.reduceLT, Nat.reduceLeDiff, Nat.reduceEqDiff, Nat.reduceAdd, Nat.reduceSub, Nat.reduceMul, reduceIte, reduceCtorEq, h0] <;> rfl) | fail), (by first | (simp only [go_sem, Nat.reduceLT, Nat.reduceLeDiff, Nat.reduceEqDiff, Nat.reduceAdd, Nat.reduceSub, Nat.reduceMul, reduceIte, reduceCtorEq, h4] <;> rfl) | fail)⟩
      · have e1 : decide ((k : Int) < (s.length : Int)) = false := decide_eq_false (by omega)
        have hkT : k = T := by omega
        repeat (first
          | refine sk_seq ?_
          | refine sk_region ?_
          | refine sk_ops_nil ?_
          | refine sk_draw_nil ?_
          | refine sk_block ?_
          | refine sk_blk ?_
          | refine sk_skip ?_
          | refine sk_exit rfl ?_
          | refine sk_draw (id := 20) [0, 1, 2, 3, 4, 5, 6] mixed (by kernel_rfl) ?_
          | ((first | (apply sk_r; rfl; rfl) | (apply sk_w; rfl; rfl) | (apply sk_i; rfl) | (apply sk_g; rfl; rfl) | (apply sk_dr; rfl; rfl; rfl) | (apply sk_dg; rfl; rfl; rfl; rfl; rfl) | apply drd_i); (simp only [go_sem, Nat.reduceLT, Nat.reduceLeDiff, Nat.reduceEqDiff, Nat.reduceAdd, Nat.reduceSub, Nat.reduceMul, reduceIte, reduceCtorEq, h0, h4, e1] <;> rfl); (first | refine sk_id ?_ | refine cs_t ?_ | refine cs_f ?_ | refine gs_t rfl ?_ | refine gs_f rfl ?_)))
        exact sk_end ⟨rfl, (by first | (simp only [go_sem, Nat.reduceLT, Nat.reduceLeDiff, Nat.reduceEqDiff, Nat.reduceAdd, Nat.reduceSub, Nat.reduceMul, reduceIte, reduceCtorEq, h0] <;> rfl) | fail), by rw [← hkT]; exact (by first | (simp only [go_sem, Nat.reduceLT, Nat.reduceLeDiff, Nat.reduceEqDiff, Nat.reduceAdd, Nat.reduceSub, Nat.reduceMul, reduceIte, reduceCtorEq, h4] <;> rfl) | fail)⟩
    clear h0 h4 hτ hno
    rintro fr τ ⟨hτ, h0, h4⟩
    rw [hτ]
    rcases hT with ⟨hT, hi⟩ | ⟨hT7, _, hi⟩
    · have e1 : decide ((T : Int) ≥ (s.length : Int)) = true := decide_eq_true (by omega)
      repeat (first
        | refine sk_seq ?_
        | refine sk_region ?_
        | refine sk_ops_nil ?_
        | refine sk_draw_nil ?_
        | refine sk_block ?_
        | refine sk_blk ?_
        | refine sk_skip ?_
        | refine sk_exit rfl ?_
        | refine sk_draw (id := 20) [0, 1, 2, 3, 4, 5, 6] mixed (by kernel_rfl) ?_
        | ((first | (apply sk_r; rfl; rfl) | (apply sk_w; rfl; rfl) | (apply sk_i; rfl) | (apply sk_g; rfl; rfl) | (apply sk_dr; rfl; rfl; rfl) | (apply sk_dg; rfl; rfl; rfl; rfl; rfl) | apply drd_i); (simp only [go_sem, Nat.reduceLT, Nat.reduceLeDiff, Nat.reduceEqDiff, Nat.reduceAdd, Nat.reduceSub, Nat.reduceMul, reduceIte, reduceCtorEq, h0, h4, e1] <;> rfl); (first | refine sk_id ?_ | refine cs_t ?_ | refine cs_f ?_ | refine gs_t rfl ?_ | refine gs_f rfl ?_)))
      exact sk_cut_ret ⟨_, (by first | (simp only [aRet, Tryd.results38, aResults, aResult, go_sem, Nat.reduceLT, Nat.reduceLeDiff, Nat.reduceEqDiff, Nat.reduceAdd, Nat.reduceSub, Nat.reduceMul, reduceIte, reduceCtorEq] <;> rfl) | fail), by unfold charsetOf; rw [← hR, csGo_none hi]; rfl, rfl⟩
    · have e1 : decide ((T : Int) ≥ (s.length : Int)) = false := decide_eq_false (by omega)
      have e2 : IntKind.wrap .i64 ((T : Int) + 7) = ((T + 7 : Nat) : Int) := wrap_i64 (by omega) (by omega)
      rw [csGo_some hi, List.drop_drop, show p + (T - p + 7) = T + 7 by omega, dw_run] at hR
      repeat (first
        | refine sk_seq ?_
        | refine sk_region ?_
        | refine sk_ops_nil ?_
        | refine sk_draw_nil ?_
        | refine sk_block ?_
        | refine sk_blk ?_
        | refine sk_skip ?_
        | refine sk_exit rfl ?_
        | refine sk_draw (id := 20) [0, 1, 2, 3, 4, 5, 6] mixed (by kernel_rfl) ?_
        | ((first | (apply sk_r; rfl; rfl) | (apply sk_w; rfl; rfl) | (apply sk_i; rfl) | (apply sk_g; rfl; rfl) | (apply sk_dr; rfl; rfl; rfl) | (apply sk_dg; rfl; rfl; rfl; rfl; rfl) | apply drd_i); (simp only [go_sem, Nat.reduceLT, Nat.reduceLeDiff, Nat.reduceEqDiff, Nat.reduceAdd, Nat.reduceSub, Nat.reduceMul, reduceIte, reduceCtorEq, h0, h4, e1, e2] <;> rfl); (first | refine sk_id ?_ | refine cs_t ?_ | refine cs_f ?_ | refine gs_t rfl ?_ | refine gs_f rfl ?_)))
      obtain ⟨b, hb⟩ : ∃ b, b = run (isIn B5) s (T + 7) := ⟨_, rfl⟩
      have hbl : b ≤ s.length := by rw [hb]; exact run_le hT7
      have hbT : T + 7 ≤ b := by rw [hb]; exact run_ge _ _ _
      rw [← hb] at hR
      refine sk_cut (fun fr σ' => σ' = σ ∧ fget fr 0 = .str s ∧ fget fr 4 = .int .i64 (b : Nat)) ?_ ?_
      · refine sk_loop (fun m fr σ' => ∃ k, m = s.length - k ∧ k ≤ s.length ∧ run (isIn B5) s k = b ∧ σ' = σ ∧ fget fr 0 = .str s ∧ fget fr 4 = .int .i64 (k : Nat)) _
          ⟨T + 7, rfl, hT7, hb.symm, rfl, (by first | (simp only [go_sem, Nat.reduceLT, Nat.reduceLeDiff, Nat.reduceEqDiff, Nat.reduceAdd, Nat.reduceSub, Nat.reduceMul, reduceIte, reduceCtorEq, h0] <;> rfl) | fail), (by first | (simp only [go_sem, Nat.reduceLT, Nat.reduceLeDiff, Nat.reduceEqDiff, Nat.reduceAdd, Nat.reduceSub, Nat.reduceMul, reduceIte, reduceCtorEq] <;> rfl) | fail)⟩ ?_
        clear h0 h4 hτ
        rintro _ fr τ ⟨k, rfl, hk, hr, hτ, h0, h4⟩
        rw [hτ]
        by_cases hkl : k < s.length
        · obtain ⟨c, hc⟩ := at_some hkl
          have e1 : decide ((k : Int) < (s.length : Int)) = true := decide_eq_true (by omega)
          have e2 : (0 : Int) ≤ (k : Int) := by omega
          have e4 : IntKind.wrap .i64 ((k : Int) + 1) = ((k + 1 : Nat) : Int) := wrap_i64 (by omega) (by omega)
          cases hm : isIn [9, 10, 12, 13, 32] c
          · repeat (first
              | refine sk_seq ?_
              | refine sk_region ?_
              | refine sk_ops_nil ?_
              | refine sk_draw_nil ?_
              | refine sk_block ?_
              | refine sk_blk ?_
              | refine sk_skip ?_
              | refine sk_exit rfl ?_
              | refine sk_draw (id := 20) [0, 1, 2, 3, 4, 5, 6] mixed (by kernel_rfl) ?_
              | ((first | (apply sk_r; rfl; rfl) | (apply sk_w; rfl; rfl) | (apply sk_i; rfl) | (apply sk_g; rfl; rfl) | (apply sk_dr; rfl; rfl; rfl) | (apply sk_dg; rfl; rfl; rfl; rfl; rfl) | apply drd_i); (simp only [go_sem, Nat.reduceLT, Nat.reduceLeDiff, Nat.reduceEqDiff, Nat.reduceAdd, Nat.reduceSub, Nat.reduceMul, reduceIte, reduceCtorEq, h0, h4, e1, e2, e4, hc] <;> rfl); (first | refine sk_id ?_ | refine cs_t ?_ | refine cs_f ?_ | refine gs_t rfl ?_ | refine gs_f rfl ?_))
              | ((first | (apply sk_c; rfl; rfl)); (simp only [go_sem, Nat.reduceLT, Nat.reduceLeDiff, Nat.reduceEqDiff, Nat.reduceAdd, Nat.reduceSub, Nat.reduceMul, reduceIte, reduceCtorEq, h0, h4, e1, e2, e4, hc] <;> rfl); (first
                  | (refine (f20_tr _ _).mono ?_; rintro _ τ2 ⟨rfl, hτ2⟩; rw [hτ2, hm])); refine sk_id ?_))
            exact sk_end ⟨rfl, (by first | (simp only [go_sem, Nat.reduceLT, Nat.reduceLeDiff, Nat.reduceEqDiff, Nat.reduceAdd, Nat.reduceSub, Nat.reduceMul, reduceIte, reduceCtorEq, h0] <;> rfl) | fail), by rw [← hr, run_stop hc hm]; exact (by first | (simp only [go_sem, Nat.reduceLT, Nat.reduceLeDiff, Nat.reduceEqDiff, Nat.reduceAdd, Nat.reduceSub, Nat.reduceMul, reduceIte, reduceCtorEq, h4] <;> rfl) | fail)⟩
          · repeat (first
              | refine sk_seq ?_
              | refine sk_region ?_
              | refine sk_ops_nil ?_
              | refine sk_draw_nil ?_
              | refine sk_block ?_
              | refine sk_blk ?_
              | refine sk_skip ?_
              | refine sk_exit rfl ?_
              | refine sk_draw (id := 20) [0, 1, 2, 3, 4, 5, 6] mixed (by kernel_rfl) ?_
              | ((first | (apply sk_r; rfl; rfl) | (apply sk_w; rfl; rfl) | (apply sk_i; rfl) | (apply sk_g; rfl; rfl) | (apply sk_dr; rfl; rfl; rfl) | (apply sk_dg; rfl; rfl; rfl; rfl; rfl) | apply drd_i); (simp only [go_sem, Nat.reduceLT, Nat.reduceLeDiff, Nat.reduceEqDiff, Nat.reduceAdd, Nat.reduceSub, Nat.reduceMul, reduceIte, reduceCtorEq, h0, h4, e1, e2, e4, hc] <;> rfl); (first | refine sk_id ?_ | refine cs_t ?_ | refine cs_f ?_ | refine gs_t rfl ?_ | refine gs_f rfl ?_))
              | ((first | (apply sk_c; rfl; rfl)); (simp only [go_sem, Nat.reduceLT, Nat.reduceLeDiff, Nat.reduceEqDiff, Nat.reduceAdd, Nat.reduceSub, Nat.reduceMul, reduceIte, reduceCtorEq, h0, h4, e1, e2, e4, hc] <;> rfl); (first
                  | (refine (f20_tr _ _).mono ?_; rintro _ τ2 ⟨rfl, hτ2⟩; rw [hτ2, hm])); refine sk_id ?_))
            exact sk_stop ⟨s.length - (k + 1), by omega, k + 1, rfl, by omega, (run_step hc hm).symm.trans hr, rfl, (by first | (simp only [go_sem, Nat.reduceLT, Nat.reduceLeDiff, Nat.reduceEqDiff, Nat.reduceAdd, Nat.reduceSub, Nat.reduceMul, reduceIte, reduceCtorEq, h0] <;> rfl) | fail), (by first | (simp only [go_sem, Nat.reduceLT, Nat.reduceLeDiff, Nat.reduceEqDiff, Nat.reduceAdd, Nat.reduceSub, Nat.reduceMul, reduceIte, reduceCtorEq] <;> rfl) | fail)⟩
        · have e1 : decide ((k : Int) < (s.length : Int)) = false := decide_eq_false (by omega)
          repeat (first
            | refine sk_seq ?_
            | refine sk_region ?_
            | refine sk_ops_nil ?_
            | refine sk_draw_nil ?_
            | refine sk_block ?_
            | refine sk_blk ?_
            | refine sk_skip ?_
            | refine sk_exit rfl ?_
            | refine sk_draw (id := 20) [0, 1, 2, 3, 4, 5, 6] mixed (by kernel_rfl) ?_
            | ((first | (apply sk_r; rfl; rfl) | (apply sk_w; rfl; rfl) | (apply sk_i; rfl) | (apply sk_g; rfl; rfl) | (apply sk_dr; rfl; rfl; rfl) | (apply sk_dg; rfl; rfl; rfl; rfl; rfl) | apply drd_i); (simp only [go_sem, Nat.reduceLT, Nat.reduceLeDiff, Nat.reduceEqDiff, Nat.reduceAdd, Nat.reduceSub, Nat.reduceMul, reduceIte, reduceCtorEq, h0, h4, e1] <;> rfl); (first | refine sk_id ?_ | refine cs_t ?_ | refine cs_f ?_ | refine gs_t rfl ?_ | refine gs_f rfl ?_)))
          exact sk_end ⟨rfl, (by first | (simp only [go_sem, Nat.reduceLT, Nat.reduceLeDiff, Nat.reduceEqDiff, Nat.reduceAdd, Nat.reduceSub, Nat.reduceMul, reduceIte, reduceCtorEq, h0] <;> rfl) | fail), by rw [← hr, run_end (by omega)]; exact (by first | (simp only [go_sem, Nat.reduceLT, Nat.reduceLeDiff, Nat.reduceEqDiff, Nat.reduceAdd, Nat.reduceSub, Nat.reduceMul, reduceIte, reduceCtorEq, h4] <;> rfl) | fail)⟩
      clear h0 h4 hτ
      rintro fr τ ⟨hτ, h0, h4⟩
      rw [hτ]
      by_cases hbs : b < s.length
      · obtain ⟨c, hc⟩ := at_some hbs
        have e3 : decide ((b : Int) < (s.length : Int)) = true := decide_eq_true (by omega)
        have e5 : (0 : Int) ≤ (b : Int) := by omega
        have e4 : IntKind.wrap .i64 ((b : Int) + 1) = ((b + 1 : Nat) : Int) := wrap_i64 (by omega) (by omega)
        have hpre : pre [61] (s.drop b) = decide (c = 61) := by rw [drop_some hc]; unfold pre; simp
        rw [hpre] at hR
        by_cases h61 : c = 61
        · have e6 : ((c : Int) == 61) = true := by simp [h61]
          repeat (first
            | refine sk_seq ?_
            | refine sk_region ?_
            | refine sk_ops_nil ?_
            | refine sk_draw_nil ?_
            | refine sk_block ?_
            | refine sk_blk ?_
            | refine sk_skip ?_
            | refine sk_exit rfl ?_
            | refine sk_draw (id := 20) [0, 1, 2, 3, 4, 5, 6] mixed (by kernel_rfl) ?_
            | ((first | (apply sk_r; rfl; rfl) | (apply sk_w; rfl; rfl) | (apply sk_i; rfl) | (apply sk_g; rfl; rfl) | (apply sk_dr; rfl; rfl; rfl) | (apply sk_dg; rfl; rfl; rfl; rfl; rfl) | apply drd_i); (simp only [go_sem, Nat.reduceLT, Nat.reduceLeDiff, Nat.reduceEqDiff, Nat.reduceAdd, Nat.reduceSub, Nat.reduceMul, reduceIte, reduceCtorEq, h0, h4, e3, e4, e5, e6, hc] <;> rfl); (first | refine sk_id ?_ | refine cs_t ?_ | refine cs_f ?_ | refine gs_t rfl ?_ | refine gs_f rfl ?_)))
          rw [if_pos (by simp [h61]), List.drop_drop, dw_run] at hR
          exact sk_end ⟨rfl, b + 1, by omega, hR.symm, (by first | (simp only [go_sem, Nat.reduceLT, Nat.reduceLeDiff, Nat.reduceEqDiff, Nat.reduceAdd, Nat.reduceSub, Nat.reduceMul, reduceIte, reduceCtorEq, h0] <;> rfl) | fail), (by first | (simp only [go_sem, Nat.reduceLT, Nat.reduceLeDiff, Nat.reduceEqDiff, Nat.reduceAdd, Nat.reduceSub, Nat.reduceMul, reduceIte, reduceCtorEq] <;> rfl) | fail)⟩
        · have e6 : ((c : Int) == 61) = false := by simp; omega
          rw [if_neg (by simp [h61])] at hR
          repeat (first
            | refine sk_seq ?_
            | refine sk_region ?_
            | refine sk_ops_nil ?_
            | refine sk_draw_nil ?_
            | refine sk_block ?_
            | refine sk_blk ?_
            | refine sk_skip ?_
            | refine sk_exit rfl ?_
            | refine sk_draw (id := 20) [0, 1, 2, 3, 4, 5, 6] mixed (by kernel_rfl) ?_
            | ((first | (apply sk_r; rfl; rfl) | (apply sk_w; rfl; rfl) | (apply sk_i; rfl) | (apply sk_g; rfl; rfl) | (apply sk_dr; rfl; rfl; rfl) | (apply sk_dg; rfl; rfl; rfl; rfl; rfl) | apply drd_i); (simp only [go_sem, Nat.reduceLT, Nat.reduceLeDiff, Nat.reduceEqDiff, Nat.reduceAdd, Nat.reduceSub, Nat.reduceMul, reduceIte, reduceCtorEq, h0, h4, e3, e4, e5, e6, hc] <;> rfl); (first | refine sk_id ?_ | refine cs_t ?_ | refine cs_f ?_ | refine gs_t rfl ?_ | refine gs_f rfl ?_)))
          exact sk_stop ⟨f, by omega, f, b, rfl, by omega, by omega, hR, rfl, (by first | (simp only [go_sem, Nat.reduceLT, Nat.reduceLeDiff, Nat.reduceEqDiff, Nat.reduceAdd, Nat.reduceSub, Nat.reduceMul, reduceIte, reduceCtorEq, h0] <;> rfl) | fail), (by first | (simp only [go_sem, Nat.reduceLT, Nat.reduceLeDiff, Nat.reduceEqDiff, Nat.reduceAdd, Nat.reduceSub, Nat.reduceMul, reduceIte, reduceCtorEq, h4] <;> rfl) | fail)⟩
      · have e3 : decide ((b : Int) < (s.length : Int)) = false := decide_eq_false (by omega)
        have hpre : pre [61] (s.drop b) = false := by rw [List.drop_eq_nil_of_le (by omega)]; rfl
        rw [hpre] at hR
        repeat (first
          | refine sk_seq ?_
          | refine sk_region ?_
          | refine sk_ops_nil ?_
          | refine sk_draw_nil ?_
          | refine sk_block ?_
          | refine sk_blk ?_
          | refine sk_skip ?_
          | refine sk_exit rfl ?_
          | refine sk_draw (id := 20) [0, 1, 2, 3, 4, 5, 6] mixed (by kernel_rfl) ?_
          | ((first | (apply sk_r; rfl; rfl) | (apply sk_w; rfl; rfl) | (apply sk_i; rfl) | (apply sk_g; rfl; rfl) | (apply sk_dr; rfl; rfl; rfl) | (apply sk_dg; rfl; rfl; rfl; rfl; rfl) | apply drd_i); (simp only [go_sem, Nat.reduceLT, Nat.reduceLeDiff, Nat.reduceEqDiff, Nat.reduceAdd, Nat.reduceSub, Nat.reduceMul, reduceIte, reduceCtorEq, h0, h4, e3] <;> rfl); (first | refine sk_id ?_ | refine cs_t ?_ | refine cs_f ?_ | refine gs_t rfl ?_ | refine gs_f rfl ?_)))
        exact sk_stop ⟨f, by omega, f, b, rfl, by omega, by omega, by simpa using hR, rfl, (by first | (simp only [go_sem, Nat.reduceLT, Nat.reduceLeDiff, Nat.reduceEqDiff, Nat.reduceAdd, Nat.reduceSub, Nat.reduceMul, reduceIte, reduceCtorEq, h0] <;> rfl) | fail), (by first | (simp only [go_sem, Nat.reduceLT, Nat.reduceLeDiff, Nat.reduceEqDiff, Nat.reduceAdd, Nat.reduceSub, Nat.reduceMul, reduceIte, reduceCtorEq, h4] <;> rfl) | fail)⟩
  rintro fr τ ⟨hτ, p, hp, hR, h0, h4⟩
  rw [hτ]
  have hcs : charsetOf s = csName (s.drop (run (isIn B5) s p)) := by unfold charsetOf; rw [hR]
  rw [hcs]
  clear hcs hR
  obtain ⟨b, hb⟩ : ∃ b, b = run (isIn B5) s p := ⟨_, rfl⟩
  rw [← hb]
  have hbl : b ≤ s.length := by rw [hb]; exact run_le hp
  repeat (first
    | refine sk_seq ?_
    | refine sk_region ?_
    | refine sk_ops_nil ?_
    | refine sk_draw_nil ?_
    | refine sk_block ?_
    | refine sk_blk ?_
    | refine sk_skip ?_
    | refine sk_exit rfl ?_
    | refine sk_draw (id := 20) [0, 1, 2, 3, 4, 5, 6] mixed (by kernel_rfl) ?_
    | ((first | (apply sk_r; rfl; rfl) | (apply sk_w; rfl; rfl) | (apply sk_i; rfl) | (apply sk_g; rfl; rfl) | (apply sk_dr; rfl; rfl; rfl) | (apply sk_dg; rfl; rfl; rfl; rfl; rfl) | apply drd_i); (simp only [go_sem, Nat.reduceLT, Nat.reduceLeDiff, Nat.reduceEqDiff, Nat.reduceAdd, Nat.reduceSub, Nat.reduceMul, reduceIte, reduceCtorEq] <;> rfl); (first | refine sk_id ?_ | refine cs_t ?_ | refine cs_f ?_ | refine gs_t rfl ?_ | refine gs_f rfl ?_)))
  refine sk_cut (fun fr σ' => σ' = σ ∧ fget fr 0 = .str s ∧ fget fr 4 = .int .i64 (b : Nat)) ?_ ?_
  · refine sk_loop (fun m fr σ' => ∃ k, m = s.length - k ∧ k ≤ s.length ∧ run (isIn B5) s k = b ∧ σ' = σ ∧ fget fr 0 = .str s ∧ fget fr 4 = .int .i64 (k : Nat)) _
      ⟨p, rfl, hp, hb.symm, rfl, h0, h4⟩ ?_
    clear h0 h4 hτ
    rintro _ fr τ ⟨k, rfl, hk, hr, hτ, h0, h4⟩
    rw [hτ]
    by_cases hkl : k < s.length
    · obtain ⟨c, hc⟩ := at_some hkl
      have e1 : decide ((k : Int) < (s.length : Int)) = true := decide_eq_true (by omega)
      have e2 : (0 : Int) ≤ (k : Int) := by omega
      have e4 : IntKind.wrap .i64 ((k : Int) + 1) = ((k + 1 : Nat) : Int) := wrap_i64 (by omega) (by omega)
      cases hm : isIn [9, 10, 12, 13, 32] c
      · repeat (first
          | refine sk_seq ?_
          | refine sk_region ?_
          | refine sk_ops_nil ?_
          | refine sk_draw_nil ?_
          | refine sk_block ?_
          | refine sk_blk ?_
          | refine sk_skip ?_
          | refine sk_exit rfl ?_
          | refine sk_draw (id := 20) [0, 1, 2, 3, 4, 5, 6] mixed (by kernel_rfl) ?_
          | ((first | (apply sk_r; rfl; rfl) | (apply sk_w; rfl; rfl) | (apply sk_i; rfl) | (apply sk_g; rfl; rfl) | (apply sk_dr; rfl; rfl; rfl) | (apply sk_dg; rfl; rfl; rfl; rfl; rfl) | apply drd_i); (simp only [go_sem, Nat.reduceLT, Nat.reduceLeDiff, Nat.reduceEqDiff, Nat.reduceAdd, Nat.reduceSub, Nat.reduceMul, reduceIte, reduceCtorEq, h0, h4, e1, e2, e4, hc] <;> rfl); (first | refine sk_id ?_ | refine cs_t ?_ | refine cs_f ?_ | refine gs_t rfl ?_ | refine gs_f rfl ?_))
          | ((first | (apply sk_c; rfl; rfl)); (simp only [go_sem, Nat.reduceLT, Nat.reduceLeDiff, Nat.reduceEqDiff, Nat.reduceAdd, Nat.reduceSub, Nat.reduceMul, reduceIte, reduceCtorEq, h0, h4, e1, e2, e4, hc] <;> rfl); (first
              | (refine (f20_tr _ _).mono ?_; rintro _ τ2 ⟨rfl, hτ2⟩; rw [hτ2, hm])); refine sk_id ?_))
        exact sk_end ⟨rfl, (by first | (simp only [go_sem, Nat.reduceLT, Nat.reduceLeDiff, Nat.reduceEqDiff, Nat.reduceAdd, Nat.reduceSub, Nat.reduceMul, reduceIte, reduceCtorEq, h0] <;> rfl) | fail), by rw [← hr, run_stop hc hm]; exact (by first | (simp only [go_sem, Nat.reduceLT, Nat.reduceLeDiff, Nat.reduceEqDiff, Nat.reduceAdd, Nat.reduceSub, Nat.reduceMul, reduceIte, reduceCtorEq, h4] <;> rfl) | fail)⟩
      · repeat (first
          | refine sk_seq ?_
          | refine sk_region ?_
          | refine sk_ops_nil ?_
          | refine sk_draw_nil ?_
          | refine sk_block ?_
          | refine sk_blk ?_
          | refine sk_skip ?_
          | refine sk_exit rfl ?_
          | refine sk_draw (id := 20) [0, 1, 2, 3, 4, 5, 6] mixed (by kernel_rfl) ?_
          | ((first | (apply sk_r; rfl; rfl) | (apply sk_w; rfl; rfl) | (apply sk_i; rfl) | (apply sk_g; rfl; rfl) | (apply sk_dr; rfl; rfl; rfl) | (apply sk_dg; rfl; rfl; rfl; rfl; rfl) | apply drd_i); (simp only [go_sem, Nat.reduceLT, Nat.reduceLeDiff, Nat.reduceEqDiff, Nat.reduceAdd, Nat.reduceSub, Nat.reduceMul, reduceIte, reduceCtorEq, h0, h4, e1, e2, e4, hc] <;> rfl); (first | refine sk_id ?_ | refine cs_t ?_ | refine cs_f ?_ | refine gs_t rfl ?_ | refine gs_f rfl ?_))
          | ((first | (apply sk_c; rfl; rfl)); (simp only [go_sem, Nat.reduceLT, Nat.reduceLeDiff, Nat.reduceEqDiff, Nat.reduceAdd, Nat.reduceSub, Nat.reduceMul, reduceIte, reduceCtorEq, h0, h4, e1, e2, e4, hc] <;> rfl); (first
              | (refine (f20_tr _ _).mono ?_; rintro _ τ2 ⟨rfl, hτ2⟩; rw [hτ2, hm])); refine sk_id ?_))
        exact sk_stop ⟨s.length - (k + 1), by omega, k + 1, rfl, by omega, (run_step hc hm).symm.trans hr, rfl, (by first | (simp only [go_sem, Nat.reduceLT, Nat.reduceLeDiff, Nat.reduceEqDiff, Nat.reduceAdd, Nat.reduceSub, Nat.reduceMul, reduceIte, reduceCtorEq, h0] <;> rfl) | fail), (by first | (simp only [go_sem, Nat.reduceLT, Nat.reduceLeDiff, Nat.reduceEqDiff, Nat.reduceAdd, Nat.reduceSub, Nat.reduceMul, reduceIte, reduceCtorEq] <;> rfl) | fail)⟩
    · have e1 : decide ((k : Int) < (s.length : Int)) = false := decide_eq_false (by omega)
      repeat (first
        | refine sk_seq ?_
        | refine sk_region ?_
        | refine sk_ops_nil ?_
        | refine sk_draw_nil ?_
        | refine sk_block ?_
        | refine sk_blk ?_
        | refine sk_skip ?_
        | refine sk_exit rfl ?_
        | refine sk_draw (id := 20) [0, 1, 2, 3, 4, 5, 6] mixed (by kernel_rfl) ?_
        | ((first | (apply sk_r; rfl; rfl) | (apply sk_w; rfl; rfl) | (apply sk_i; rfl) | (apply sk_g; rfl; rfl) | (apply sk_dr; rfl; rfl; rfl) | (apply sk_dg; rfl; rfl; rfl; rfl; rfl) | apply drd_i); (simp only [go_sem, Nat.reduceLT, Nat.reduceLeDiff, Nat.reduceEqDiff, Nat.reduceAdd, Nat.reduceSub, Nat.reduceMul, reduceIte, reduceCtorEq, h0, h4, e1] <;> rfl); (first | refine sk_id ?_ | refine cs_t ?_ | refine cs_f ?_ | refine gs_t rfl ?_ | refine gs_f rfl ?_)))
      exact sk_end ⟨rfl, (by first | (simp only [go_sem, Nat.reduceLT, Nat.reduceLeDiff, Nat.reduceEqDiff, Nat.reduceAdd, Nat.reduceSub, Nat.reduceMul, reduceIte, reduceCtorEq, h0] <;> rfl) | fail), by rw [← hr, run_end (by omega)]; exact (by first | (simp only [go_sem, Nat.reduceLT, Nat.reduceLeDiff, Nat.reduceEqDiff, Nat.reduceAdd, Nat.reduceSub, Nat.reduceMul, reduceIte, reduceCtorEq, h4] <;> rfl) | fail)⟩
  clear h0 h4 hτ hb
  rintro fr τ ⟨hτ, h0, h4⟩
  rw [hτ]
  by_cases hbs : b < s.length
  · obtain ⟨q, hq⟩ := at_some hbs
    have e1 : ((b : Int) == (s.length : Int)) = false := by simp; omega
    have e2 : (0 : Int) ≤ (b : Int) := by omega
    have e4 : IntKind.wrap .i64 ((b : Int) + 1) = ((b + 1 : Nat) : Int) := wrap_i64 (by omega) (by omega)
    rw [drop_some hq]
    by_cases hq2 : q = 34 ∨ q = 39
    · rw [csName_quote hq2, indexN_one, firstIn_drop (by omega)]
      obtain ⟨T, hT⟩ : ∃ T, T = run (fun c => !isIn [q] c) s (b + 1) := ⟨_, rfl⟩
      rw [← hT]
      have hTl : T ≤ s.length := by rw [hT]; exact run_le (by omega)
      have hTb : b + 1 ≤ T := by rw [hT]; exact run_ge _ _ _
      have hwalk : ∃ e5 e6 : Bool, ((q : Int) == 34) = e5 ∧ ((q : Int) == 39) = e6 ∧ (e5 = true ∨ e6 = true) := by
        rcases hq2 with h | h
        · exact ⟨true, false, by simp [h], by simp [h], .inl rfl⟩
        · exact ⟨false, true, by simp [h], by simp [h], .inr rfl⟩
      obtain ⟨e5, e6, h5, h6, h56⟩ := hwalk
      have hloop : ∀ fr, fget fr 0 = .str s → fget fr 4 = .int .i64 (b : Nat) → fget fr 6 = .int .i64 ((b + 1 : Nat) : Int) → True := fun _ _ _ _ => trivial
      cases e5 <;> cases e6
      · simp at h56
      all_goals
        repeat (first
          | refine sk_seq ?_
          | refine sk_region ?_
          | refine sk_ops_nil ?_
          | refine sk_draw_nil ?_
          | refine sk_block ?_
          | refine sk_blk ?_
          | refine sk_skip ?_
          | refine sk_exit rfl ?_
          | refine sk_draw (id := 20) [0, 1, 2, 3, 4, 5, 6] mixed (by kernel_rfl) ?_
          | ((first | (apply sk_r; rfl; rfl) | (apply sk_w; rfl; rfl) | (apply sk_i; rfl) | (apply sk_g; rfl; rfl) | (apply sk_dr; rfl; rfl; rfl) | (apply sk_dg; rfl; rfl; rfl; rfl; rfl) | apply drd_i); (simp only [go_sem, Nat.reduceLT, Nat.reduceLeDiff, Nat.reduceEqDiff, Nat.reduceAdd, Nat.reduceSub, Nat.reduceMul, reduceIte, reduceCtorEq, h0, h4, e1, e2, e4, h5, h6, hq] <;> rfl); (first | refine sk_id ?_ | refine cs_t ?_ | refine cs_f ?_ | refine gs_t rfl ?_ | refine gs_f rfl ?_)))
        refine sk_cut (fun fr σ' => σ' = σ ∧ T = s.length) ?_ ?_
        · refine sk_loop (fun m fr σ' => ∃ k, m = s.length - k ∧ k ≤ s.length ∧ b + 1 ≤ k ∧ run (fun c => !isIn [q] c) s k = T ∧ σ' = σ ∧ fget fr 0 = .str s ∧ fget fr 4 = .int .i64 (b : Nat) ∧ fget fr 6 = .int .i64 (k : Nat)) _
            ⟨b + 1, rfl, by omega, Nat.le_refl _, hT.symm, rfl, (by first | (simp only [go_sem, Nat.reduceLT, Nat.reduceLeDiff, Nat.reduceEqDiff, Nat.reduceAdd, Nat.reduceSub, Nat.reduceMul, reduceIte, reduceCtorEq, h0] <;> rfl) | fail), (by first | (simp only [go_sem, Nat.reduceLT, Nat.reduceLeDiff, Nat.reduceEqDiff, Nat.reduceAdd, Nat.reduceSub, Nat.reduceMul, reduceIte, reduceCtorEq, h4] <;> rfl) | fail), (by first | (simp only [go_sem, Nat.reduceLT, Nat.reduceLeDiff, Nat.reduceEqDiff, Nat.reduceAdd, Nat.reduceSub, Nat.reduceMul, reduceIte, reduceCtorEq] <;> rfl) | fail)⟩ ?_
          clear h0 h4 hτ
          rintro _ fr τ ⟨k, rfl, hk, hkb, hr, hτ, h0, h4, h6⟩
          rw [hτ]
          by_cases hkl : k < s.length
          · obtain ⟨c, hc⟩ := at_some hkl
            have e1 : decide ((k : Int) < (s.length : Int)) = true := decide_eq_true (by omega)
            have e7 : (0 : Int) ≤ (k : Int) := by omega
            have e8 : IntKind.wrap .i64 ((k : Int) + 1) = ((k + 1 : Nat) : Int) := wrap_i64 (by omega) (by omega)
            by_cases hcq : c = q
            · have hst := run_stop (p := fun c => !isIn [q] c) hc (isIn_yes (by simp [hcq]))
              have hkT : k = T := by rw [← hr, hst]
              have e9 : ((c : Int) == (q : Int)) = true := by simp [hcq]
              have e10 : ((b + 1 : Nat) : Int) ≤ (k : Int) := by omega
              have e11 : (k : Int) ≤ (s.length : Int) := by omega
              have e12 : (0 : Int) ≤ ((b + 1 : Nat) : Int) := by omega
              repeat (first
                | refine sk_seq ?_
                | refine sk_region ?_
                | refine sk_ops_nil ?_
                | refine sk_draw_nil ?_
                | refine sk_block ?_
                | refine sk_blk ?_
                | refine sk_skip ?_
                | refine sk_exit rfl ?_
                | refine sk_draw (id := 20) [0, 1, 2, 3, 4, 5, 6] mixed (by kernel_rfl) ?_
                | ((first | (apply sk_r; rfl; rfl) | (apply sk_w; rfl; rfl) | (apply sk_i; rfl) | (apply sk_g; rfl; rfl) | (apply sk_dr; rfl; rfl; rfl) | (apply sk_dg; rfl; rfl; rfl; rfl; rfl) | apply drd_i); (simp only [go_sem, Nat.reduceLT, Nat.reduceLeDiff, Nat.reduceEqDiff, Nat.reduceAdd, Nat.reduceSub, Nat.reduceMul, reduceIte, reduceCtorEq, h0, h4, h6, e1, e2, e4, e7, e8, e9, e10, e11, e12, hc, hq, and_self] <;> rfl); (first | refine sk_id ?_ | refine cs_t ?_ | refine cs_f ?_ | refine gs_t rfl ?_ | refine gs_f rfl ?_)))
              refine sk_cut_ret ⟨_, (by first | (simp only [aRet, Tryd.results38, aResults, aResult, go_sem, Nat.reduceLT, Nat.reduceLeDiff, Nat.reduceEqDiff, Nat.reduceAdd, Nat.reduceSub, Nat.reduceMul, reduceIte, reduceCtorEq] <;> rfl) | fail), ?_, rfl⟩
              have hlt : T < s.length := by omega
              rw [if_pos hlt, if_neg (show ¬ (((T - (b + 1) : Nat) : Int) = -1) by omega), hkT]
              simp only [nameAV, Int.toNat_natCast]
              rw [List.drop_take]
            · have e9 : ((c : Int) == (q : Int)) = false := by simp; omega
              repeat (first
                | refine sk_seq ?_
                | refine sk_region ?_
                | refine sk_ops_nil ?_
                | refine sk_draw_nil ?_
                | refine sk_block ?_
                | refine sk_blk ?_
                | refine sk_skip ?_
                | refine sk_exit rfl ?_
                | refine sk_draw (id := 20) [0, 1, 2, 3, 4, 5, 6] mixed (by kernel_rfl) ?_
                | ((first | (apply sk_r; rfl; rfl) | (apply sk_w; rfl; rfl) | (apply sk_i; rfl) | (apply sk_g; rfl; rfl) | (apply sk_dr; rfl; rfl; rfl) | (apply sk_dg; rfl; rfl; rfl; rfl; rfl) | apply drd_i); (simp only [go_sem, Nat.reduceLT, Nat.reduceLeDiff, Nat.reduceEqDiff, Nat.reduceAdd, Nat.reduceSub, Nat.reduceMul, reduceIte, reduceCtorEq, h0, h4, h6, e1, e2, e4, e7, e8, e9, hc, hq, and_self] <;> rfl); (first | refine sk_id ?_ | refine cs_t ?_ | refine cs_f ?_ | refine gs_t rfl ?_ | refine gs_f rfl ?_)))
              exact sk_stop ⟨s.length - (k + 1), by omega, k + 1, rfl, by omega, by omega, (run_step (p := fun c => !isIn [q] c) hc (isIn_not (by simp [hcq]))).symm.trans hr, rfl, (by first | (simp only [go_sem, Nat.reduceLT, Nat.reduceLeDiff, Nat.reduceEqDiff, Nat.reduceAdd, Nat.reduceSub, Nat.reduceMul, reduceIte, reduceCtorEq, h0] <;> rfl) | fail), (by first | (simp only [go_sem, Nat.reduceLT, Nat.reduceLeDiff, Nat.reduceEqDiff, Nat.reduceAdd, Nat.reduceSub, Nat.reduceMul, reduceIte, reduceCtorEq, h4] <;> rfl) | fail), (by first | (simp only [go_sem, Nat.reduceLT, Nat.reduceLeDiff, Nat.reduceEqDiff, Nat.reduceAdd, Nat.reduceSub, Nat.reduceMul, reduceIte, reduceCtorEq] <;> rfl) | fail)⟩
          · have e1 : decide ((k : Int) < (s.length : Int)) = false := decide_eq_false (by omega)
            repeat (first
              | refine sk_seq ?_
              | refine sk_region ?_
              | refine sk_ops_nil ?_
              | refine sk_draw_nil ?_
              | refine sk_block ?_
              | refine sk_blk ?_
              | refine sk_skip ?_
              | refine sk_exit rfl ?_
              | refine sk_draw (id := 20) [0, 1, 2, 3, 4, 5, 6] mixed (by kernel_rfl) ?_
              | ((first | (apply sk_r; rfl; rfl) | (apply sk_w; rfl; rfl) | (apply sk_i; rfl) | (apply sk_g; rfl; rfl) | (apply sk_dr; rfl; rfl; rfl) | (apply sk_dg; rfl; rfl; rfl; rfl; rfl) | apply drd_i); (simp only [go_sem, Nat.reduceLT, Nat.reduceLeDiff, Nat.reduceEqDiff, Nat.reduceAdd, Nat.reduceSub, Nat.reduceMul, reduceIte, reduceCtorEq, h0, h4, h6, e1] <;> rfl); (first | refine sk_id ?_ | refine cs_t ?_ | refine cs_f ?_ | refine gs_t rfl ?_ | refine gs_f rfl ?_)))
            exact sk_end ⟨rfl, by rw [← hr, run_end (by omega)]; omega⟩
        · rintro fr τ ⟨hτ, hTs⟩
          rw [hτ]
          repeat (first
            | refine sk_seq ?_
            | refine sk_region ?_
            | refine sk_ops_nil ?_
            | refine sk_draw_nil ?_
            | refine sk_block ?_
            | refine sk_blk ?_
            | refine sk_skip ?_
            | refine sk_exit rfl ?_
            | refine sk_draw (id := 20) [0, 1, 2, 3, 4, 5, 6] mixed (by kernel_rfl) ?_
            | ((first | (apply sk_r; rfl; rfl) | (apply sk_w; rfl; rfl) | (apply sk_i; rfl) | (apply sk_g; rfl; rfl) | (apply sk_dr; rfl; rfl; rfl) | (apply sk_dg; rfl; rfl; rfl; rfl; rfl) | apply drd_i); (simp only [go_sem, Nat.reduceLT, Nat.reduceLeDiff, Nat.reduceEqDiff, Nat.reduceAdd, Nat.reduceSub, Nat.reduceMul, reduceIte, reduceCtorEq] <;> rfl); (first | refine sk_id ?_ | refine cs_t ?_ | refine cs_f ?_ | refine gs_t rfl ?_ | refine gs_f rfl ?_)))
          have hlt : ¬ T < s.length := by omega
          exact sk_ret ⟨_, (by first | (simp only [aRet, Tryd.results38, aResults, aResult, go_sem, Nat.reduceLT, Nat.reduceLeDiff, Nat.reduceEqDiff, Nat.reduceAdd, Nat.reduceSub, Nat.reduceMul, reduceIte, reduceCtorEq] <;> rfl) | fail), by rw [if_neg hlt, if_pos rfl]; rfl, rfl⟩
    · rw [csName_plain hq2, ← drop_some hq, firstIn_drop (by omega)]
      have h5 : ((q : Int) == 34) = false := by simp; omega
      have h6 : ((q : Int) == 39) = false := by simp; omega
      obtain ⟨T, hT⟩ : ∃ T, T = run (fun c => !isIn S6 c) s b := ⟨_, rfl⟩
      rw [← hT]
      have hTl : T ≤ s.length := by rw [hT]; exact run_le (by omega)
      have hTb : b ≤ T := by rw [hT]; exact run_ge _ _ _
      repeat (first
        | refine sk_seq ?_
        | refine sk_region ?_
        | refine sk_ops_nil ?_
        | refine sk_draw_nil ?_
        | refine sk_block ?_
        | refine sk_blk ?_
        | refine sk_skip ?_
        | refine sk_exit rfl ?_
        | refine sk_draw (id := 20) [0, 1, 2, 3, 4, 5, 6] mixed (by kernel_rfl) ?_
        | ((first | (apply sk_r; rfl; rfl) | (apply sk_w; rfl; rfl) | (apply sk_i; rfl) | (apply sk_g; rfl; rfl) | (apply sk_dr; rfl; rfl; rfl) | (apply sk_dg; rfl; rfl; rfl; rfl; rfl) | apply drd_i); (simp only [go_sem, Nat.reduceLT, Nat.reduceLeDiff, Nat.reduceEqDiff, Nat.reduceAdd, Nat.reduceSub, Nat.reduceMul, reduceIte, reduceCtorEq, h0, h4, e1, e2, h5, h6, hq] <;> rfl); (first | refine sk_id ?_ | refine cs_t ?_ | refine cs_f ?_ | refine gs_t rfl ?_ | refine gs_f rfl ?_)))
      refine sk_cut (fun fr σ' => σ' = σ ∧ fget fr 0 = .str s ∧ fget fr 5 = .int .i64 (b : Nat) ∧ fget fr 4 = .int .i64 (T : Nat)) ?_ ?_
      · refine sk_loop (fun m fr σ' => ∃ k, m = s.length - k ∧ k ≤ s.length ∧ run (fun c => !isIn S6 c) s k = T ∧ σ' = σ ∧ fget fr 0 = .str s ∧ fget fr 5 = .int .i64 (b : Nat) ∧ fget fr 4 = .int .i64 (k : Nat)) _
          ⟨b, rfl, by omega, hT.symm, rfl, (by first | (simp only [go_sem, Nat.reduceLT, Nat.reduceLeDiff, Nat.reduceEqDiff, Nat.reduceAdd, Nat.reduceSub, Nat.reduceMul, reduceIte, reduceCtorEq, h0] <;> rfl) | fail), (by first | (simp only [go_sem, Nat.reduceLT, Nat.reduceLeDiff, Nat.reduceEqDiff, Nat.reduceAdd, Nat.reduceSub, Nat.reduceMul, reduceIte, reduceCtorEq, h4] <;> rfl) | fail), (by first | (simp only [go_sem, Nat.reduceLT, Nat.reduceLeDiff, Nat.reduceEqDiff, Nat.reduceAdd, Nat.reduceSub, Nat.reduceMul, reduceIte, reduceCtorEq, h4] <;> rfl) | fail)⟩ ?_
        clear h0 h4 hτ
        rintro _ fr τ ⟨k, rfl, hk, hr, hτ, h0, h5, h4⟩
        rw [hτ]
        by_cases hkl : k < s.length
        · obtain ⟨c, hc⟩ := at_some hkl
          have e1 : decide ((k : Int) < (s.length : Int)) = true := decide_eq_true (by omega)
          have e7 : (0 : Int) ≤ (k : Int) := by omega
          have e8 : IntKind.wrap .i64 ((k : Int) + 1) = ((k + 1 : Nat) : Int) := wrap_i64 (by omega) (by omega)
          have h6c := isIn6 c
          cases hm : isIn [9, 10, 12, 13, 32] c
          · rw [hm] at h6c
            by_cases h59 : c = 59
            · have e9 : ((c : Int) != 59) = false := by simp [h59]
              rw [show decide (c = 59) = true from decide_eq_true h59] at h6c
              repeat (first
                | refine sk_seq ?_
                | refine sk_region ?_
                | refine sk_ops_nil ?_
                | refine sk_draw_nil ?_
                | refine sk_block ?_
                | refine sk_blk ?_
                | refine sk_skip ?_
                | refine sk_exit rfl ?_
                | refine sk_draw (id := 20) [0, 1, 2, 3, 4, 5, 6] mixed (by kernel_rfl) ?_
                | ((first | (apply sk_r; rfl; rfl) | (apply sk_w; rfl; rfl) | (apply sk_i; rfl) | (apply sk_g; rfl; rfl) | (apply sk_dr; rfl; rfl; rfl) | (apply sk_dg; rfl; rfl; rfl; rfl; rfl) | apply drd_i); (simp only [go_sem, Nat.reduceLT, Nat.reduceLeDiff, Nat.reduceEqDiff, Nat.reduceAdd, Nat.reduceSub, Nat.reduceMul, reduceIte, reduceCtorEq, h0, h4, h5, e1, e7, e8, e9, hc] <;> rfl); (first | refine sk_id ?_ | refine cs_t ?_ | refine cs_f ?_ | refine gs_t rfl ?_ | refine gs_f rfl ?_))
                | ((first | (apply sk_c; rfl; rfl)); (simp only [go_sem, Nat.reduceLT, Nat.reduceLeDiff, Nat.reduceEqDiff, Nat.reduceAdd, Nat.reduceSub, Nat.reduceMul, reduceIte, reduceCtorEq, h0, h4, h5, e1, e7, e8, e9, hc] <;> rfl); (first
                    | (refine (f20_tr _ _).mono ?_; rintro _ τ2 ⟨rfl, hτ2⟩; rw [hτ2, hm])); refine sk_id ?_))
              exact sk_end ⟨rfl, (by first | (simp only [go_sem, Nat.reduceLT, Nat.reduceLeDiff, Nat.reduceEqDiff, Nat.reduceAdd, Nat.reduceSub, Nat.reduceMul, reduceIte, reduceCtorEq, h0] <;> rfl) | fail), (by first | (simp only [go_sem, Nat.reduceLT, Nat.reduceLeDiff, Nat.reduceEqDiff, Nat.reduceAdd, Nat.reduceSub, Nat.reduceMul, reduceIte, reduceCtorEq, h5] <;> rfl) | fail), by rw [← hr, run_stop (p := fun c => !isIn S6 c) hc (by simp [h6c])]; exact (by first | (simp only [go_sem, Nat.reduceLT, Nat.reduceLeDiff, Nat.reduceEqDiff, Nat.reduceAdd, Nat.reduceSub, Nat.reduceMul, reduceIte, reduceCtorEq, h4] <;> rfl) | fail)⟩
            · have e9 : ((c : Int) != 59) = true := by simp; omega
              rw [show decide (c = 59) = false from decide_eq_false h59] at h6c
              repeat (first
                | refine sk_seq ?_
                | refine sk_region ?_
                | refine sk_ops_nil ?_
                | refine sk_draw_nil ?_
                | refine sk_block ?_
                | refine sk_blk ?_
                | refine sk_skip ?_
                | refine sk_exit rfl ?_
                | refine sk_draw (id := 20) [0, 1, 2, 3, 4, 5, 6] mixed (by kernel_rfl) ?_
                | ((first | (apply sk_r; rfl; rfl) | (apply sk_w; rfl; rfl) | (apply sk_i; rfl) | (apply sk_g; rfl; rfl) | (apply sk_dr; rfl; rfl; rfl) | (apply sk_dg; rfl; rfl; rfl; rfl; rfl) | apply drd_i); (simp only [go_sem, Nat.reduceLT, Nat.reduceLeDiff, Nat.reduceEqDiff, Nat.reduceAdd, Nat.reduceSub, Nat.reduceMul, reduceIte, reduceCtorEq, h0, h4, h5, e1, e7, e8, e9, hc] <;> rfl); (first | refine sk_id ?_ | refine cs_t ?_ | refine cs_f ?_ | refine gs_t rfl ?_ | refine gs_f rfl ?_))
                | ((first | (apply sk_c; rfl; rfl)); (simp only [go_sem, Nat.reduceLT, Nat.reduceLeDiff, Nat.reduceEqDiff, Nat.reduceAdd, Nat.reduceSub, Nat.reduceMul, reduceIte, reduceCtorEq, h0, h4, h5, e1, e7, e8, e9, hc] <;> rfl); (first
                    | (refine (f20_tr _ _).mono ?_; rintro _ τ2 ⟨rfl, hτ2⟩; rw [hτ2, hm])); refine sk_id ?_))
              exact sk_stop ⟨s.length - (k + 1), by omega, k + 1, rfl, by omega, (run_step (p := fun c => !isIn S6 c) hc (by simp [h6c])).symm.trans hr, rfl, (by first | (simp only [go_sem, Nat.reduceLT, Nat.reduceLeDiff, Nat.reduceEqDiff, Nat.reduceAdd, Nat.reduceSub, Nat.reduceMul, reduceIte, reduceCtorEq, h0] <;> rfl) | fail), (by first | (simp only [go_sem, Nat.reduceLT, Nat.reduceLeDiff, Nat.reduceEqDiff, Nat.reduceAdd, Nat.reduceSub, Nat.reduceMul, reduceIte, reduceCtorEq, h5] <;> rfl) | fail), (by first | (simp only [go_sem, Nat.reduceLT, Nat.reduceLeDiff, Nat.reduceEqDiff, Nat.reduceAdd, Nat.reduceSub, Nat.reduceMul, reduceIte, reduceCtorEq] <;> rfl) | fail)⟩
          · rw [hm] at h6c
            repeat (first
              | refine sk_seq ?_
              | refine sk_region ?_
              | refine sk_ops_nil ?_
              | refine sk_draw_nil ?_
              | refine sk_block ?_
              | refine sk_blk ?_
              | refine sk_skip ?_
              | refine sk_exit rfl ?_
              | refine sk_draw (id := 20) [0, 1, 2, 3, 4, 5, 6] mixed (by kernel_rfl) ?_
              | ((first | (apply sk_r; rfl; rfl) | (apply sk_w; rfl; rfl) | (apply sk_i; rfl) | (apply sk_g; rfl; rfl) | (apply sk_dr; rfl; rfl; rfl) | (apply sk_dg; rfl; rfl; rfl; rfl; rfl) | apply drd_i); (simp only [go_sem, Nat.reduceLT, Nat.reduceLeDiff, Nat.reduceEqDiff, Nat.reduceAdd, Nat.reduceSub, Nat.reduceMul, reduceIte, reduceCtorEq, h0, h4, h5, e1, e7, e8, hc] <;> rfl); (first | refine sk_id ?_ | refine cs_t ?_ | refine cs_f ?_ | refine gs_t rfl ?_ | refine gs_f rfl ?_))
              | ((first | (apply sk_c; rfl; rfl)); (simp only [go_sem, Nat.reduceLT, Nat.reduceLeDiff, Nat.reduceEqDiff, Nat.reduceAdd, Nat.reduceSub, Nat.reduceMul, reduceIte, reduceCtorEq, h0, h4, h5, e1, e7, e8, hc] <;> rfl); (first
                  | (refine (f20_tr _ _).mono ?_; rintro _ τ2 ⟨rfl, hτ2⟩; rw [hτ2, hm])); refine sk_id ?_))
            exact sk_end ⟨rfl, (by first | (simp only [go_sem, Nat.reduceLT, Nat.reduceLeDiff, Nat.reduceEqDiff, Nat.reduceAdd, Nat.reduceSub, Nat.reduceMul, reduceIte, reduceCtorEq, h0] <;> rfl) | fail), (by first | (simp only [go_sem, Nat.reduceLT, Nat.reduceLeDiff, Nat.reduceEqDiff, Nat.reduceAdd, Nat.reduceSub, Nat.reduceMul, reduceIte, reduceCtorEq, h5] <;> rfl) | fail), by rw [← hr, run_stop (p := fun c => !isIn S6 c) hc (by simp [h6c])]; exact (by first | (simp only [go_sem, Nat.reduceLT, Nat.reduceLeDiff, Nat.reduceEqDiff, Nat.reduceAdd, Nat.reduceSub, Nat.reduceMul, reduceIte, reduceCtorEq, h4] <;> rfl) | fail)⟩
        · have e1 : decide ((k : Int) < (s.length : Int)) = false := decide_eq_false (by omega)
          repeat (first
            | refine sk_seq ?_
            | refine sk_region ?_
            | refine sk_ops_nil ?_
            | refine sk_draw_nil ?_
            | refine sk_block ?_
            | refine sk_blk ?_
            | refine sk_skip ?_
            | refine sk_exit rfl ?_
            | refine sk_draw (id := 20) [0, 1, 2, 3, 4, 5, 6] mixed (by kernel_rfl) ?_
            | ((first | (apply sk_r; rfl; rfl) | (apply sk_w; rfl; rfl) | (apply sk_i; rfl) | (apply sk_g; rfl; rfl) | (apply sk_dr; rfl; rfl; rfl) | (apply sk_dg; rfl; rfl; rfl; rfl; rfl) | apply drd_i); (simp only [go_sem, Nat.reduceLT, Nat.reduceLeDiff, Nat.reduceEqDiff, Nat.reduceAdd, Nat.reduceSub, Nat.reduceMul, reduceIte, reduceCtorEq, h0, h4, h5, e1] <;> rfl); (first | refine sk_id ?_ | refine cs_t ?_ | refine cs_f ?_ | refine gs_t rfl ?_ | refine gs_f rfl ?_)))
          exact sk_end ⟨rfl, (by first | (simp only [go_sem, Nat.reduceLT, Nat.reduceLeDiff, Nat.reduceEqDiff, Nat.reduceAdd, Nat.reduceSub, Nat.reduceMul, reduceIte, reduceCtorEq, h0] <;> rfl) | fail), (by first | (simp only [go_sem, Nat.reduceLT, Nat.reduceLeDiff, Nat.reduceEqDiff, Nat.reduceAdd, Nat.reduceSub, Nat.reduceMul, reduceIte, reduceCtorEq, h5] <;> rfl) | fail), by rw [← hr, run_end (by omega)]; exact (by first | (simp only [go_sem, Nat.reduceLT, Nat.reduceLeDiff, Nat.reduceEqDiff, Nat.reduceAdd, Nat.reduceSub, Nat.reduceMul, reduceIte, reduceCtorEq, h4] <;> rfl) | fail)⟩
      clear h0 h4 hτ
      rintro fr τ ⟨hτ, h0, h5, h4⟩
      rw [hτ]
      have e7 : (b : Int) ≤ (T : Int) := by omega
      have e8 : (T : Int) ≤ (s.length : Int) := by omega
      repeat (first
        | refine sk_seq ?_
        | refine sk_region ?_
        | refine sk_ops_nil ?_
        | refine sk_draw_nil ?_
        | refine sk_block ?_
        | refine sk_blk ?_
        | refine sk_skip ?_
        | refine sk_exit rfl ?_
        | refine sk_draw (id := 20) [0, 1, 2, 3, 4, 5, 6] mixed (by kernel_rfl) ?_
        | ((first | (apply sk_r; rfl; rfl) | (apply sk_w; rfl; rfl) | (apply sk_i; rfl) | (apply sk_g; rfl; rfl) | (apply sk_dr; rfl; rfl; rfl) | (apply sk_dg; rfl; rfl; rfl; rfl; rfl) | apply drd_i); (simp only [go_sem, Nat.reduceLT, Nat.reduceLeDiff, Nat.reduceEqDiff, Nat.reduceAdd, Nat.reduceSub, Nat.reduceMul, reduceIte, reduceCtorEq, h0, h4, h5, e2, e7, e8, and_self] <;> rfl); (first | refine sk_id ?_ | refine cs_t ?_ | refine cs_f ?_ | refine gs_t rfl ?_ | refine gs_f rfl ?_)))
      refine sk_ret ⟨_, (by first | (simp only [aRet, Tryd.results38, aResults, aResult, go_sem, Nat.reduceLT, Nat.reduceLeDiff, Nat.reduceEqDiff, Nat.reduceAdd, Nat.reduceSub, Nat.reduceMul, reduceIte, reduceCtorEq] <;> rfl) | fail), ?_, rfl⟩
      by_cases hTs : T < s.length
      · rw [if_pos hTs, if_pos (by omega)]
        simp only [nameAV, Int.toNat_natCast]
        rw [List.drop_take]
      · rw [if_neg hTs, if_neg (by omega)]
        simp only [nameAV, Int.toNat_natCast]
        rw [List.take_of_length_le (by omega)]
  · have e1 : ((b : Int) == (s.length : Int)) = true := by simp; omega
    rw [List.drop_eq_nil_of_le (by omega)]
    repeat (first
      | refine sk_seq ?_
      | refine sk_region ?_
      | refine sk_ops_nil ?_
      | refine sk_draw_nil ?_
      | refine sk_block ?_
      | refine sk_blk ?_
      | refine sk_skip ?_
      | refine sk_exit rfl ?_
      | refine sk_draw (id := 20) [0, 1, 2, 3, 4, 5, 6] mixed (by kernel_rfl) ?_
      | ((first | (apply sk_r; rfl; rfl) | (apply sk_w; rfl; rfl) | (apply sk_i; rfl) | (apply sk_g; rfl; rfl) | (apply sk_dr; rfl; rfl; rfl) | (apply sk_dg; rfl; rfl; rfl; rfl; rfl) | apply drd_i); (simp only [go_sem, Nat.reduceLT, Nat.reduceLeDiff, Nat.reduceEqDiff, Nat.reduceAdd, Nat.reduceSub, Nat.reduceMul, reduceIte, reduceCtorEq, h0, h4, e1] <;> rfl); (first | refine sk_id ?_ | refine cs_t ?_ | refine cs_f ?_ | refine gs_t rfl ?_ | refine gs_f rfl ?_)))
    exact sk_ret ⟨_, (by first | (simp only [aRet, Tryd.results38, aResults, aResult, go_sem, Nat.reduceLT, Nat.reduceLeDiff, Nat.reduceEqDiff, Nat.reduceAdd, Nat.reduceSub, Nat.reduceMul, reduceIte, reduceCtorEq] <;> rfl) | fail), rfl, rfl⟩
end Go.Proofs.YtophnlmdcidolaaDoor
