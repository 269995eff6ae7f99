import Derived.Test.YtophnlmdcidolaaDoorL
set_option linter.all false
namespace Go.Proofs.YtophnlmdcidolaaDoor
open Go Go.Am
set_option maxHeartbeats 8000000
set_option maxRecDepth 100000

theorem wakes_tr : Tr Tryd.prog 11 [] (heap0 Tryd.prog) fun v _ => v = .bool true := by
  obtain ⟨σ, h⟩ := isTrue_iff wakes_run
  exact (evFun_sound ext_ok mixed 2000 40 _ _ _ _ _ h).mono fun v σ' h => h.1

theorem f4_tr (data name : List Nat) (hd : ∀ c ∈ data, c < 256) (hnm : ∀ c ∈ name, c < 256) (hl : data.length ≤ 4611686018427387904) (hn : name.length ≤ 4611686018427387904) :
    Tr Tryd.prog 4 [.str data, .str name] (heap0 Tryd.prog) fun v _ => v = .bool true := by
  refine sk_body (m := 109) Tryd.func4 rfl (by decide) rfl ?_
  repeat (first
    | refine sk_seq ?_
    | refine sk_region ?_
    | refine sk_ops_nil ?_
    | refine sk_block ?_
    | refine sk_blk ?_
    | refine sk_skip ?_
    | refine sk_exit rfl ?_
    | ((first | (apply sk_r; rfl; rfl) | (apply sk_w; rfl; rfl) | (apply sk_i; rfl) | (apply sk_g; rfl; rfl)); (simp only [go_sem, Nat.reduceLT, Nat.reduceLeDiff, Nat.reduceEqDiff, Nat.reduceAdd, Nat.reduceSub, Nat.reduceMul, reduceIte, reduceCtorEq] <;> rfl); (first | refine sk_id ?_ | refine cs_t ?_ | refine cs_f ?_ | refine gs_t rfl ?_ | refine gs_f rfl ?_))
    | ((first | (apply sk_c; rfl; rfl)); (simp only [go_sem, Nat.reduceLT, Nat.reduceLeDiff, Nat.reduceEqDiff, Nat.reduceAdd, Nat.reduceSub, Nat.reduceMul, reduceIte, reduceCtorEq] <;> rfl); (first
        | (refine wakes_tr.mono ?_; rintro _ τ rfl)); refine sk_id ?_))
  refine sk_cut (fun fr _ => fget fr 0 = .str data ∧ fget fr 1 = .str name ∧ ∀ c ∈ name, okc c) ?_ ?_
  · refine sk_loop (fun m fr _ => ∃ i, m = name.length - i ∧ i ≤ name.length ∧ fget fr 0 = .str data ∧ fget fr 1 = .str name ∧ fget fr 5 = .int .i64 (i : Nat) ∧ ∀ c ∈ name.take i, okc c) _ ⟨0, rfl, by omega, (by first | (simp only [go_sem, Nat.reduceLT, Nat.reduceLeDiff, Nat.reduceEqDiff, Nat.reduceAdd, Nat.reduceSub, Nat.reduceMul, reduceIte, reduceCtorEq] <;> rfl) | fail), (by first | (simp only [go_sem, Nat.reduceLT, Nat.reduceLeDiff, Nat.reduceEqDiff, Nat.reduceAdd, Nat.reduceSub, Nat.reduceMul, reduceIte, reduceCtorEq] <;> rfl) | fail), (by first | (simp only [go_sem, Nat.reduceLT, Nat.reduceLeDiff, Nat.reduceEqDiff, Nat.reduceAdd, Nat.reduceSub, Nat.reduceMul, reduceIte, reduceCtorEq] <;> rfl) | fail), by simp⟩ ?_
    rintro _ fr σ1 ⟨i, rfl, hi, h0, h1, h5, hok⟩
    by_cases hil : i < name.length
    · obtain ⟨c, hc⟩ := at_some hil
      have hc8 := hnm c (at_mem hc)
      have e1 : decide ((i : Int) < (name.length : Int)) = true := decide_eq_true (by omega)
      have e2 : (0 : Int) ≤ (i : Int) := by omega
      have e4 : IntKind.wrap .i64 ((i : Int) + 1) = ((i + 1 : Nat) : Int) := wrap_i64 (by omega) (by omega)
      have next : okc c → ∀ b ∈ name.take (i + 1), okc b := fun h b hb => by
        rw [List.take_succ, hc] at hb
        rcases List.mem_append.1 hb with hb | hb
        · exact hok b hb
        · simp at hb; subst hb; exact h
      by_cases h97 : c < 97
      · have f1 : decide ((c : Int) < 97) = true := decide_eq_true (by omega)
        by_cases h48 : c < 48
        · have f3 : decide ((c : Int) < 48) = true := decide_eq_true (by omega)
          by_cases h45 : c = 45
          · have f5 : ((c : Int) != 45) = false := by simp; omega
            repeat (first
              | refine sk_seq ?_
              | refine sk_region ?_
              | refine sk_ops_nil ?_
              | refine sk_block ?_
              | refine sk_blk ?_
              | refine sk_skip ?_
              | refine sk_exit rfl ?_
              | ((first | (apply sk_r; rfl; rfl) | (apply sk_w; rfl; rfl) | (apply sk_i; rfl) | (apply sk_g; rfl; rfl)); (simp only [go_sem, Nat.reduceLT, Nat.reduceLeDiff, Nat.reduceEqDiff, Nat.reduceAdd, Nat.reduceSub, Nat.reduceMul, reduceIte, reduceCtorEq, h0, h1, h5, e1, e2, e4, hc, f1, f3, f5] <;> rfl); (first | refine sk_id ?_ | refine cs_t ?_ | refine cs_f ?_ | refine gs_t rfl ?_ | refine gs_f rfl ?_)))
            exact sk_stop ⟨name.length - (i + 1), by omega, i + 1, rfl, by omega, (by first | (simp only [go_sem, Nat.reduceLT, Nat.reduceLeDiff, Nat.reduceEqDiff, Nat.reduceAdd, Nat.reduceSub, Nat.reduceMul, reduceIte, reduceCtorEq, h0] <;> rfl) | fail), (by first | (simp only [go_sem, Nat.reduceLT, Nat.reduceLeDiff, Nat.reduceEqDiff, Nat.reduceAdd, Nat.reduceSub, Nat.reduceMul, reduceIte, reduceCtorEq, h1] <;> rfl) | fail), (by first | (simp only [go_sem, Nat.reduceLT, Nat.reduceLeDiff, Nat.reduceEqDiff, Nat.reduceAdd, Nat.reduceSub, Nat.reduceMul, reduceIte, reduceCtorEq] <;> rfl) | fail), next (by unfold okc; omega)⟩
          · have f5 : ((c : Int) != 45) = true := by simp; omega
            repeat (first
              | refine sk_seq ?_
              | refine sk_region ?_
              | refine sk_ops_nil ?_
              | refine sk_block ?_
              | refine sk_blk ?_
              | refine sk_skip ?_
              | refine sk_exit rfl ?_
              | ((first | (apply sk_r; rfl; rfl) | (apply sk_w; rfl; rfl) | (apply sk_i; rfl) | (apply sk_g; rfl; rfl)); (simp only [go_sem, Nat.reduceLT, Nat.reduceLeDiff, Nat.reduceEqDiff, Nat.reduceAdd, Nat.reduceSub, Nat.reduceMul, reduceIte, reduceCtorEq, h0, h1, h5, e1, e2, e4, hc, f1, f3, f5] <;> rfl); (first | refine sk_id ?_ | refine cs_t ?_ | refine cs_f ?_ | refine gs_t rfl ?_ | refine gs_f rfl ?_)))
            exact sk_cut_ret ⟨_, (by first | (simp only [aRet, Tryd.results4, aResults, aResult, go_sem, Nat.reduceLT, Nat.reduceLeDiff, Nat.reduceEqDiff, Nat.reduceAdd, Nat.reduceSub, Nat.reduceMul, reduceIte, reduceCtorEq] <;> rfl) | fail), by rfl⟩
        · have f3 : decide ((c : Int) < 48) = false := decide_eq_false (by omega)
          have f5 : ((c : Int) != 45) = true := by simp; omega
          by_cases h57 : c > 57
          · have f4 : decide ((c : Int) > 57) = true := decide_eq_true (by omega)
            repeat (first
              | refine sk_seq ?_
              | refine sk_region ?_
              | refine sk_ops_nil ?_
              | refine sk_block ?_
              | refine sk_blk ?_
              | refine sk_skip ?_
              | refine sk_exit rfl ?_
              | ((first | (apply sk_r; rfl; rfl) | (apply sk_w; rfl; rfl) | (apply sk_i; rfl) | (apply sk_g; rfl; rfl)); (simp only [go_sem, Nat.reduceLT, Nat.reduceLeDiff, Nat.reduceEqDiff, Nat.reduceAdd, Nat.reduceSub, Nat.reduceMul, reduceIte, reduceCtorEq, h0, h1, h5, e1, e2, e4, hc, f1, f3, f4, f5] <;> rfl); (first | refine sk_id ?_ | refine cs_t ?_ | refine cs_f ?_ | refine gs_t rfl ?_ | refine gs_f rfl ?_)))
            exact sk_cut_ret ⟨_, (by first | (simp only [aRet, Tryd.results4, aResults, aResult, go_sem, Nat.reduceLT, Nat.reduceLeDiff, Nat.reduceEqDiff, Nat.reduceAdd, Nat.reduceSub, Nat.reduceMul, reduceIte, reduceCtorEq] <;> rfl) | fail), by rfl⟩
          · have f4 : decide ((c : Int) > 57) = false := decide_eq_false (by omega)
            repeat (first
              | refine sk_seq ?_
              | refine sk_region ?_
              | refine sk_ops_nil ?_
              | refine sk_block ?_
              | refine sk_blk ?_
              | refine sk_skip ?_
              | refine sk_exit rfl ?_
              | ((first | (apply sk_r; rfl; rfl) | (apply sk_w; rfl; rfl) | (apply sk_i; rfl) | (apply sk_g; rfl; rfl)); (simp only [go_sem, Nat.reduceLT, Nat.reduceLeDiff, Nat.reduceEqDiff, Nat.reduceAdd, Nat.reduceSub, Nat.reduceMul, reduceIte, reduceCtorEq, h0, h1, h5, e1, e2, e4, hc, f1, f3, f4, f5] <;> rfl); (first | refine sk_id ?_ | refine cs_t ?_ | refine cs_f ?_ | refine gs_t rfl ?_ | refine gs_f rfl ?_)))
            exact sk_stop ⟨name.length - (i + 1), by omega, i + 1, rfl, by omega, (by first | (simp only [go_sem, Nat.reduceLT, Nat.reduceLeDiff, Nat.reduceEqDiff, Nat.reduceAdd, Nat.reduceSub, Nat.reduceMul, reduceIte, reduceCtorEq, h0] <;> rfl) | fail), (by first | (simp only [go_sem, Nat.reduceLT, Nat.reduceLeDiff, Nat.reduceEqDiff, Nat.reduceAdd, Nat.reduceSub, Nat.reduceMul, reduceIte, reduceCtorEq, h1] <;> rfl) | fail), (by first | (simp only [go_sem, Nat.reduceLT, Nat.reduceLeDiff, Nat.reduceEqDiff, Nat.reduceAdd, Nat.reduceSub, Nat.reduceMul, reduceIte, reduceCtorEq] <;> rfl) | fail), next (by unfold okc; omega)⟩
      · have f1 : decide ((c : Int) < 97) = false := decide_eq_false (by omega)
        by_cases h122 : c > 122
        · have f2 : decide ((c : Int) > 122) = true := decide_eq_true (by omega)
          have f3 : decide ((c : Int) < 48) = false := decide_eq_false (by omega)
          have f4 : decide ((c : Int) > 57) = true := decide_eq_true (by omega)
          have f5 : ((c : Int) != 45) = true := by simp; omega
          repeat (first
            | refine sk_seq ?_
            | refine sk_region ?_
            | refine sk_ops_nil ?_
            | refine sk_block ?_
            | refine sk_blk ?_
            | refine sk_skip ?_
            | refine sk_exit rfl ?_
            | ((first | (apply sk_r; rfl; rfl) | (apply sk_w; rfl; rfl) | (apply sk_i; rfl) | (apply sk_g; rfl; rfl)); (simp only [go_sem, Nat.reduceLT, Nat.reduceLeDiff, Nat.reduceEqDiff, Nat.reduceAdd, Nat.reduceSub, Nat.reduceMul, reduceIte, reduceCtorEq, h0, h1, h5, e1, e2, e4, hc, f1, f2, f3, f4, f5] <;> rfl); (first | refine sk_id ?_ | refine cs_t ?_ | refine cs_f ?_ | refine gs_t rfl ?_ | refine gs_f rfl ?_)))
          exact sk_cut_ret ⟨_, (by first | (simp only [aRet, Tryd.results4, aResults, aResult, go_sem, Nat.reduceLT, Nat.reduceLeDiff, Nat.reduceEqDiff, Nat.reduceAdd, Nat.reduceSub, Nat.reduceMul, reduceIte, reduceCtorEq] <;> rfl) | fail), by rfl⟩
        · have f2 : decide ((c : Int) > 122) = false := decide_eq_false (by omega)
          repeat (first
            | refine sk_seq ?_
            | refine sk_region ?_
            | refine sk_ops_nil ?_
            | refine sk_block ?_
            | refine sk_blk ?_
            | refine sk_skip ?_
            | refine sk_exit rfl ?_
            | ((first | (apply sk_r; rfl; rfl) | (apply sk_w; rfl; rfl) | (apply sk_i; rfl) | (apply sk_g; rfl; rfl)); (simp only [go_sem, Nat.reduceLT, Nat.reduceLeDiff, Nat.reduceEqDiff, Nat.reduceAdd, Nat.reduceSub, Nat.reduceMul, reduceIte, reduceCtorEq, h0, h1, h5, e1, e2, e4, hc, f1, f2] <;> rfl); (first | refine sk_id ?_ | refine cs_t ?_ | refine cs_f ?_ | refine gs_t rfl ?_ | refine gs_f rfl ?_)))
          exact sk_stop ⟨name.length - (i + 1), by omega, i + 1, rfl, by omega, (by first | (simp only [go_sem, Nat.reduceLT, Nat.reduceLeDiff, Nat.reduceEqDiff, Nat.reduceAdd, Nat.reduceSub, Nat.reduceMul, reduceIte, reduceCtorEq, h0] <;> rfl) | fail), (by first | (simp only [go_sem, Nat.reduceLT, Nat.reduceLeDiff, Nat.reduceEqDiff, Nat.reduceAdd, Nat.reduceSub, Nat.reduceMul, reduceIte, reduceCtorEq, h1] <;> rfl) | fail), (by first | (simp only [go_sem, Nat.reduceLT, Nat.reduceLeDiff, Nat.reduceEqDiff, Nat.reduceAdd, Nat.reduceSub, Nat.reduceMul, reduceIte, reduceCtorEq] <;> rfl) | fail), next (by unfold okc; omega)⟩
    · have e1 : decide ((i : Int) < (name.length : Int)) = false := decide_eq_false (by omega)
      rw [List.take_of_length_le (by omega)] at hok
      repeat (first
        | refine sk_seq ?_
        | refine sk_region ?_
        | refine sk_ops_nil ?_
        | refine sk_block ?_
        | refine sk_blk ?_
        | refine sk_skip ?_
        | refine sk_exit rfl ?_
        | ((first | (apply sk_r; rfl; rfl) | (apply sk_w; rfl; rfl) | (apply sk_i; rfl) | (apply sk_g; rfl; rfl)); (simp only [go_sem, Nat.reduceLT, Nat.reduceLeDiff, Nat.reduceEqDiff, Nat.reduceAdd, Nat.reduceSub, Nat.reduceMul, reduceIte, reduceCtorEq, h0, h1, h5, e1] <;> rfl); (first | refine sk_id ?_ | refine cs_t ?_ | refine cs_f ?_ | refine gs_t rfl ?_ | refine gs_f rfl ?_)))
      exact sk_end ⟨(by first | (simp only [go_sem, Nat.reduceLT, Nat.reduceLeDiff, Nat.reduceEqDiff, Nat.reduceAdd, Nat.reduceSub, Nat.reduceMul, reduceIte, reduceCtorEq, h0] <;> rfl) | fail), (by first | (simp only [go_sem, Nat.reduceLT, Nat.reduceLeDiff, Nat.reduceEqDiff, Nat.reduceAdd, Nat.reduceSub, Nat.reduceMul, reduceIte, reduceCtorEq, h1] <;> rfl) | fail), hok⟩
  rintro fr τ ⟨h0, h1, hok⟩
  by_cases hne : name = []
  · subst hne
    repeat (first
      | refine sk_seq ?_
      | refine sk_region ?_
      | refine sk_ops_nil ?_
      | refine sk_block ?_
      | refine sk_blk ?_
      | refine sk_skip ?_
      | refine sk_exit rfl ?_
      | ((first | (apply sk_r; rfl; rfl) | (apply sk_w; rfl; rfl) | (apply sk_i; rfl) | (apply sk_g; rfl; rfl)); (simp only [go_sem, Nat.reduceLT, Nat.reduceLeDiff, Nat.reduceEqDiff, Nat.reduceAdd, Nat.reduceSub, Nat.reduceMul, reduceIte, reduceCtorEq, h0, h1] <;> rfl); (first | refine sk_id ?_ | refine cs_t ?_ | refine cs_f ?_ | refine gs_t rfl ?_ | refine gs_f rfl ?_)))
    exact sk_ret ⟨_, (by first | (simp only [aRet, Tryd.results4, aResults, aResult, go_sem, Nat.reduceLT, Nat.reduceLeDiff, Nat.reduceEqDiff, Nat.reduceAdd, Nat.reduceSub, Nat.reduceMul, reduceIte, reduceCtorEq] <;> rfl) | fail), by rfl⟩
  have b0 : beqL name [] = false := by rw [beqL_eq]; exact decide_eq_false hne
  by_cases h60 : name.length > 60
  · have g1 : decide ((name.length : Int) > 60) = true := decide_eq_true (by omega)
    repeat (first
      | refine sk_seq ?_
      | refine sk_region ?_
      | refine sk_ops_nil ?_
      | refine sk_block ?_
      | refine sk_blk ?_
      | refine sk_skip ?_
      | refine sk_exit rfl ?_
      | ((first | (apply sk_r; rfl; rfl) | (apply sk_w; rfl; rfl) | (apply sk_i; rfl) | (apply sk_g; rfl; rfl)); (simp only [go_sem, Nat.reduceLT, Nat.reduceLeDiff, Nat.reduceEqDiff, Nat.reduceAdd, Nat.reduceSub, Nat.reduceMul, reduceIte, reduceCtorEq, h0, h1, bytes_nil, b0, g1] <;> rfl); (first | refine sk_id ?_ | refine cs_t ?_ | refine cs_f ?_ | refine gs_t rfl ?_ | refine gs_f rfl ?_)))
    exact sk_ret ⟨_, (by first | (simp only [aRet, Tryd.results4, aResults, aResult, go_sem, Nat.reduceLT, Nat.reduceLeDiff, Nat.reduceEqDiff, Nat.reduceAdd, Nat.reduceSub, Nat.reduceMul, reduceIte, reduceCtorEq] <;> rfl) | fail), by rfl⟩
  have g1 : decide ((name.length : Int) > 60) = false := decide_eq_false (by omega)
  have k1 : bytesOf { data := #[60, 109, 101, 116, 97, 32, 99, 104, 97, 114, 115, 101, 116, 61] } = [60, 109, 101, 116, 97, 32, 99, 104, 97, 114, 115, 101, 116, 61] := rfl
  have k2 : bytesOf { data := #[62] } = [62] := rfl
  have k3 : bytesOf { data := #[60, 112, 62] } = [60, 112, 62] := rfl
  have k4 : bytesOf { data := #[239, 187, 191, 60, 109, 101, 116, 97, 32, 99, 104, 97, 114, 115, 101, 116, 61] } = [239, 187, 191, 60, 109, 101, 116, 97, 32, 99, 104, 97, 114, 115, 101, 116, 61] := rfl
  have s1 := fun σ => f8_tr (docT name data) [] (some name) (by simp) (by simp) (fun n h => by cases h; exact ⟨fun c hc => okc_lt (hok c hc), by omega⟩) (fun σ _ _ => f16_sp name data hok hne (by omega) hd σ) σ
  have s2 := fun σ => f8_tr ([60, 112, 62] ++ data) name none (fun c hc => okc_lt (hok c hc)) (by omega) (fun n h => by cases h) (fun σ _ h => absurd h hne) σ
  have p3 : pre [239, 187, 191] ([239, 187, 191, 60, 109, 101, 116, 97, 32, 99, 104, 97, 114, 115, 101, 116, 61] ++ name ++ [62] ++ data) = true := by
    unfold pre; rw [List.append_assoc, List.append_assoc]; exact decide_eq_true rfl
  have s3 := fun σ => f8_tr ([239, 187, 191, 60, 109, 101, 116, 97, 32, 99, 104, 97, 114, 115, 101, 116, 61] ++ name ++ [62] ++ data) name none (fun c hc => okc_lt (hok c hc)) (by omega) (fun n h => by cases h) (fun σ h _ => by rw [p3] at h; cases h) σ
  have ed : [60, 109, 101, 116, 97, 32, 99, 104, 97, 114, 115, 101, 116, 61] ++ name ++ [62] ++ data = docT name data := by
    unfold docT; rw [List.append_assoc, List.append_assoc]; rfl
  have c3 : chosen ([239, 187, 191, 60, 109, 101, 116, 97, 32, 99, 104, 97, 114, 115, 101, 116, 61] ++ name ++ [62] ++ data) name none = (1, 3, false) := by
    unfold chosen; rw [p3]; rfl
  rw [c3] at s3
  have p1 : pre [239, 187, 191] (docT name data) = false := decide_eq_false (by unfold docT; simp)
  have p2 : pre [239, 187, 191] ([60, 112, 62] ++ data) = false := decide_eq_false (by simp)
  by_cases hz : labelOf ((Am.tr B5 name).map low) = 0
  · rw [chosen_bad p1 rfl hz] at s1
    rw [chosen_bad p2 (if_neg hne) hz] at s2
    repeat (first
      | refine sk_add (y := .tmp 53) (a := [60, 109, 101, 116, 97, 32, 99, 104, 97, 114, 115, 101, 116, 61]) (b := name) rfl (by first | (simp only [go_sem, Nat.reduceLT, Nat.reduceLeDiff, Nat.reduceEqDiff, Nat.reduceAdd, Nat.reduceSub, Nat.reduceMul, reduceIte, reduceCtorEq, h0, h1, bytes_nil, b0, g1, k1, k2, k3, k4, ed] <;> rfl) | fail) (by first | (simp only [go_sem, Nat.reduceLT, Nat.reduceLeDiff, Nat.reduceEqDiff, Nat.reduceAdd, Nat.reduceSub, Nat.reduceMul, reduceIte, reduceCtorEq, h0, h1, bytes_nil, b0, g1, k1, k2, k3, k4, ed] <;> rfl) | fail) (by simp only [List.length_append, List.length_cons, List.length_nil]; omega) ?_
      | refine sk_add (x := .tmp 54) (a := [60, 109, 101, 116, 97, 32, 99, 104, 97, 114, 115, 101, 116, 61] ++ name) (b := [62]) rfl (by first | (simp only [go_sem, Nat.reduceLT, Nat.reduceLeDiff, Nat.reduceEqDiff, Nat.reduceAdd, Nat.reduceSub, Nat.reduceMul, reduceIte, reduceCtorEq, h0, h1, bytes_nil, b0, g1, k1, k2, k3, k4, ed] <;> rfl) | fail) (by first | (simp only [go_sem, Nat.reduceLT, Nat.reduceLeDiff, Nat.reduceEqDiff, Nat.reduceAdd, Nat.reduceSub, Nat.reduceMul, reduceIte, reduceCtorEq, h0, h1, bytes_nil, b0, g1, k1, k2, k3, k4, ed] <;> rfl) | fail) (by simp only [List.length_append, List.length_cons, List.length_nil]; omega) ?_
      | refine sk_add (x := .tmp 55) (a := [60, 109, 101, 116, 97, 32, 99, 104, 97, 114, 115, 101, 116, 61] ++ name ++ [62]) (b := data) rfl (by first | (simp only [go_sem, Nat.reduceLT, Nat.reduceLeDiff, Nat.reduceEqDiff, Nat.reduceAdd, Nat.reduceSub, Nat.reduceMul, reduceIte, reduceCtorEq, h0, h1, bytes_nil, b0, g1, k1, k2, k3, k4, ed] <;> rfl) | fail) (by first | (simp only [go_sem, Nat.reduceLT, Nat.reduceLeDiff, Nat.reduceEqDiff, Nat.reduceAdd, Nat.reduceSub, Nat.reduceMul, reduceIte, reduceCtorEq, h0, h1, bytes_nil, b0, g1, k1, k2, k3, k4, ed] <;> rfl) | fail) (by simp only [List.length_append, List.length_cons, List.length_nil]; omega) ?_
      | refine sk_add (y := .tmp 63) (a := [60, 112, 62]) (b := data) rfl (by first | (simp only [go_sem, Nat.reduceLT, Nat.reduceLeDiff, Nat.reduceEqDiff, Nat.reduceAdd, Nat.reduceSub, Nat.reduceMul, reduceIte, reduceCtorEq, h0, h1, bytes_nil, b0, g1, k1, k2, k3, k4, ed] <;> rfl) | fail) (by first | (simp only [go_sem, Nat.reduceLT, Nat.reduceLeDiff, Nat.reduceEqDiff, Nat.reduceAdd, Nat.reduceSub, Nat.reduceMul, reduceIte, reduceCtorEq, h0, h1, bytes_nil, b0, g1, k1, k2, k3, k4, ed] <;> rfl) | fail) (by simp only [List.length_append, List.length_cons, List.length_nil]; omega) ?_
      | refine sk_add (y := .tmp 71) (a := [239, 187, 191, 60, 109, 101, 116, 97, 32, 99, 104, 97, 114, 115, 101, 116, 61]) (b := name) rfl (by first | (simp only [go_sem, Nat.reduceLT, Nat.reduceLeDiff, Nat.reduceEqDiff, Nat.reduceAdd, Nat.reduceSub, Nat.reduceMul, reduceIte, reduceCtorEq, h0, h1, bytes_nil, b0, g1, k1, k2, k3, k4, ed] <;> rfl) | fail) (by first | (simp only [go_sem, Nat.reduceLT, Nat.reduceLeDiff, Nat.reduceEqDiff, Nat.reduceAdd, Nat.reduceSub, Nat.reduceMul, reduceIte, reduceCtorEq, h0, h1, bytes_nil, b0, g1, k1, k2, k3, k4, ed] <;> rfl) | fail) (by simp only [List.length_append, List.length_cons, List.length_nil]; omega) ?_
      | refine sk_add (x := .tmp 72) (a := [239, 187, 191, 60, 109, 101, 116, 97, 32, 99, 104, 97, 114, 115, 101, 116, 61] ++ name) (b := [62]) rfl (by first | (simp only [go_sem, Nat.reduceLT, Nat.reduceLeDiff, Nat.reduceEqDiff, Nat.reduceAdd, Nat.reduceSub, Nat.reduceMul, reduceIte, reduceCtorEq, h0, h1, bytes_nil, b0, g1, k1, k2, k3, k4, ed] <;> rfl) | fail) (by first | (simp only [go_sem, Nat.reduceLT, Nat.reduceLeDiff, Nat.reduceEqDiff, Nat.reduceAdd, Nat.reduceSub, Nat.reduceMul, reduceIte, reduceCtorEq, h0, h1, bytes_nil, b0, g1, k1, k2, k3, k4, ed] <;> rfl) | fail) (by simp only [List.length_append, List.length_cons, List.length_nil]; omega) ?_
      | refine sk_add (x := .tmp 73) (a := [239, 187, 191, 60, 109, 101, 116, 97, 32, 99, 104, 97, 114, 115, 101, 116, 61] ++ name ++ [62]) (b := data) rfl (by first | (simp only [go_sem, Nat.reduceLT, Nat.reduceLeDiff, Nat.reduceEqDiff, Nat.reduceAdd, Nat.reduceSub, Nat.reduceMul, reduceIte, reduceCtorEq, h0, h1, bytes_nil, b0, g1, k1, k2, k3, k4, ed] <;> rfl) | fail) (by first | (simp only [go_sem, Nat.reduceLT, Nat.reduceLeDiff, Nat.reduceEqDiff, Nat.reduceAdd, Nat.reduceSub, Nat.reduceMul, reduceIte, reduceCtorEq, h0, h1, bytes_nil, b0, g1, k1, k2, k3, k4, ed] <;> rfl) | fail) (by simp only [List.length_append, List.length_cons, List.length_nil]; omega) ?_
      | refine sk_seq ?_
      | refine sk_region ?_
      | refine sk_ops_nil ?_
      | refine sk_block ?_
      | refine sk_blk ?_
      | refine sk_skip ?_
      | refine sk_exit rfl ?_
      | ((first | (apply sk_r; rfl; rfl) | (apply sk_w; rfl; rfl) | (apply sk_i; rfl) | (apply sk_g; rfl; rfl)); (simp only [go_sem, Nat.reduceLT, Nat.reduceLeDiff, Nat.reduceEqDiff, Nat.reduceAdd, Nat.reduceSub, Nat.reduceMul, reduceIte, reduceCtorEq, h0, h1, bytes_nil, b0, g1, k1, k2, k3, k4, ed] <;> rfl); (first | refine sk_id ?_ | refine cs_t ?_ | refine cs_f ?_ | refine gs_t rfl ?_ | refine gs_f rfl ?_))
      | ((first | (apply sk_c; rfl; rfl)); (simp only [go_sem, Nat.reduceLT, Nat.reduceLeDiff, Nat.reduceEqDiff, Nat.reduceAdd, Nat.reduceSub, Nat.reduceMul, reduceIte, reduceCtorEq, h0, h1, bytes_nil, b0, g1, k1, k2, k3, k4, ed] <;> rfl); (first
          | (refine (s1 _).mono ?_; rintro _ τ2 ⟨rfl, hτ2⟩; rw [hτ2, chosenAV])
          | (refine (s2 _).mono ?_; rintro _ τ2 ⟨rfl, hτ2⟩; rw [hτ2, chosenAV])
          | (refine (s3 _).mono ?_; rintro _ τ2 ⟨rfl, hτ2⟩; rw [hτ2, chosenAV])); refine sk_id ?_))
    exact sk_ret ⟨_, (by first | (simp only [aRet, Tryd.results4, aResults, aResult, go_sem, Nat.reduceLT, Nat.reduceLeDiff, Nat.reduceEqDiff, Nat.reduceAdd, Nat.reduceSub, Nat.reduceMul, reduceIte, reduceCtorEq] <;> rfl) | fail), by rfl⟩
  · rw [chosen_ok p1 rfl hz] at s1
    rw [chosen_ok p2 (if_neg hne) hz] at s2
    generalize labelOf ((Am.tr B5 name).map low) = r at *
    have q1 : ((r : Int) == (r : Int)) = true := by simp
    repeat (first
      | refine sk_add (y := .tmp 53) (a := [60, 109, 101, 116, 97, 32, 99, 104, 97, 114, 115, 101, 116, 61]) (b := name) rfl (by first | (simp only [go_sem, Nat.reduceLT, Nat.reduceLeDiff, Nat.reduceEqDiff, Nat.reduceAdd, Nat.reduceSub, Nat.reduceMul, reduceIte, reduceCtorEq, h0, h1, bytes_nil, b0, g1, k1, k2, k3, k4, ed, q1] <;> rfl) | fail) (by first | (simp only [go_sem, Nat.reduceLT, Nat.reduceLeDiff, Nat.reduceEqDiff, Nat.reduceAdd, Nat.reduceSub, Nat.reduceMul, reduceIte, reduceCtorEq, h0, h1, bytes_nil, b0, g1, k1, k2, k3, k4, ed, q1] <;> rfl) | fail) (by simp only [List.length_append, List.length_cons, List.length_nil]; omega) ?_
      | refine sk_add (x := .tmp 54) (a := [60, 109, 101, 116, 97, 32, 99, 104, 97, 114, 115, 101, 116, 61] ++ name) (b := [62]) rfl (by first | (simp only [go_sem, Nat.reduceLT, Nat.reduceLeDiff, Nat.reduceEqDiff, Nat.reduceAdd, Nat.reduceSub, Nat.reduceMul, reduceIte, reduceCtorEq, h0, h1, bytes_nil, b0, g1, k1, k2, k3, k4, ed, q1] <;> rfl) | fail) (by first | (simp only [go_sem, Nat.reduceLT, Nat.reduceLeDiff, Nat.reduceEqDiff, Nat.reduceAdd, Nat.reduceSub, Nat.reduceMul, reduceIte, reduceCtorEq, h0, h1, bytes_nil, b0, g1, k1, k2, k3, k4, ed, q1] <;> rfl) | fail) (by simp only [List.length_append, List.length_cons, List.length_nil]; omega) ?_
      | refine sk_add (x := .tmp 55) (a := [60, 109, 101, 116, 97, 32, 99, 104, 97, 114, 115, 101, 116, 61] ++ name ++ [62]) (b := data) rfl (by first | (simp only [go_sem, Nat.reduceLT, Nat.reduceLeDiff, Nat.reduceEqDiff, Nat.reduceAdd, Nat.reduceSub, Nat.reduceMul, reduceIte, reduceCtorEq, h0, h1, bytes_nil, b0, g1, k1, k2, k3, k4, ed, q1] <;> rfl) | fail) (by first | (simp only [go_sem, Nat.reduceLT, Nat.reduceLeDiff, Nat.reduceEqDiff, Nat.reduceAdd, Nat.reduceSub, Nat.reduceMul, reduceIte, reduceCtorEq, h0, h1, bytes_nil, b0, g1, k1, k2, k3, k4, ed, q1] <;> rfl) | fail) (by simp only [List.length_append, List.length_cons, List.length_nil]; omega) ?_
      | refine sk_add (y := .tmp 63) (a := [60, 112, 62]) (b := data) rfl (by first | (simp only [go_sem, Nat.reduceLT, Nat.reduceLeDiff, Nat.reduceEqDiff, Nat.reduceAdd, Nat.reduceSub, Nat.reduceMul, reduceIte, reduceCtorEq, h0, h1, bytes_nil, b0, g1, k1, k2, k3, k4, ed, q1] <;> rfl) | fail) (by first | (simp only [go_sem, Nat.reduceLT, Nat.reduceLeDiff, Nat.reduceEqDiff, Nat.reduceAdd, Nat.reduceSub, Nat.reduceMul, reduceIte, reduceCtorEq, h0, h1, bytes_nil, b0, g1, k1, k2, k3, k4, ed, q1] <;> rfl) | fail) (by simp only [List.length_append, List.length_cons, List.length_nil]; omega) ?_
      | refine sk_add (y := .tmp 71) (a := [239, 187, 191, 60, 109, 101, 116, 97, 32, 99, 104, 97, 114, 115, 101, 116, 61]) (b := name) rfl (by first | (simp only [go_sem, Nat.reduceLT, Nat.reduceLeDiff, Nat.reduceEqDiff, Nat.reduceAdd, Nat.reduceSub, Nat.reduceMul, reduceIte, reduceCtorEq, h0, h1, bytes_nil, b0, g1, k1, k2, k3, k4, ed, q1] <;> rfl) | fail) (by first | (simp only [go_sem, Nat.reduceLT, Nat.reduceLeDiff, Nat.reduceEqDiff, Nat.reduceAdd, Nat.reduceSub, Nat.reduceMul, reduceIte, reduceCtorEq, h0, h1, bytes_nil, b0, g1, k1, k2, k3, k4, ed, q1] <;> rfl) | fail) (by simp only [List.length_append, List.length_cons, List.length_nil]; omega) ?_
      | refine sk_add (x := .tmp 72) (a := [239, 187, 191, 60, 109, 101, 116, 97, 32, 99, 104, 97, 114, 115, 101, 116, 61] ++ name) (b := [62]) rfl (by first | (simp only [go_sem, Nat.reduceLT, Nat.reduceLeDiff, Nat.reduceEqDiff, Nat.reduceAdd, Nat.reduceSub, Nat.reduceMul, reduceIte, reduceCtorEq, h0, h1, bytes_nil, b0, g1, k1, k2, k3, k4, ed, q1] <;> rfl) | fail) (by first | (simp only [go_sem, Nat.reduceLT, Nat.reduceLeDiff, Nat.reduceEqDiff, Nat.reduceAdd, Nat.reduceSub, Nat.reduceMul, reduceIte, reduceCtorEq, h0, h1, bytes_nil, b0, g1, k1, k2, k3, k4, ed, q1] <;> rfl) | fail) (by simp only [List.length_append, List.length_cons, List.length_nil]; omega) ?_
      | refine sk_add (x := .tmp 73) (a := [239, 187, 191, 60, 109, 101, 116, 97, 32, 99, 104, 97, 114, 115, 101, 116, 61] ++ name ++ [62]) (b := data) rfl (by first | (simp only [go_sem, Nat.reduceLT, Nat.reduceLeDiff, Nat.reduceEqDiff, Nat.reduceAdd, Nat.reduceSub, Nat.reduceMul, reduceIte, reduceCtorEq, h0, h1, bytes_nil, b0, g1, k1, k2, k3, k4, ed, q1] <;> rfl) | fail) (by first | (simp only [go_sem, Nat.reduceLT, Nat.reduceLeDiff, Nat.reduceEqDiff, Nat.reduceAdd, Nat.reduceSub, Nat.reduceMul, reduceIte, reduceCtorEq, h0, h1, bytes_nil, b0, g1, k1, k2, k3, k4, ed, q1] <;> rfl) | fail) (by simp only [List.length_append, List.length_cons, List.length_nil]; omega) ?_
      | refine sk_seq ?_
      | refine sk_region ?_
      | refine sk_ops_nil ?_
      | refine sk_block ?_
      | refine sk_blk ?_
      | refine sk_skip ?_
      | refine sk_exit rfl ?_
      | ((first | (apply sk_r; rfl; rfl) | (apply sk_w; rfl; rfl) | (apply sk_i; rfl) | (apply sk_g; rfl; rfl)); (simp only [go_sem, Nat.reduceLT, Nat.reduceLeDiff, Nat.reduceEqDiff, Nat.reduceAdd, Nat.reduceSub, Nat.reduceMul, reduceIte, reduceCtorEq, h0, h1, bytes_nil, b0, g1, k1, k2, k3, k4, ed, q1] <;> rfl); (first | refine sk_id ?_ | refine cs_t ?_ | refine cs_f ?_ | refine gs_t rfl ?_ | refine gs_f rfl ?_))
      | ((first | (apply sk_c; rfl; rfl)); (simp only [go_sem, Nat.reduceLT, Nat.reduceLeDiff, Nat.reduceEqDiff, Nat.reduceAdd, Nat.reduceSub, Nat.reduceMul, reduceIte, reduceCtorEq, h0, h1, bytes_nil, b0, g1, k1, k2, k3, k4, ed, q1] <;> rfl); (first
          | (refine (s1 _).mono ?_; rintro _ τ2 ⟨rfl, hτ2⟩; rw [hτ2, chosenAV])
          | (refine (s2 _).mono ?_; rintro _ τ2 ⟨rfl, hτ2⟩; rw [hτ2, chosenAV])
          | (refine (s3 _).mono ?_; rintro _ τ2 ⟨rfl, hτ2⟩; rw [hτ2, chosenAV])); refine sk_id ?_))
    exact sk_ret ⟨_, (by first | (simp only [aRet, Tryd.results4, aResults, aResult, go_sem, Nat.reduceLT, Nat.reduceLeDiff, Nat.reduceEqDiff, Nat.reduceAdd, Nat.reduceSub, Nat.reduceMul, reduceIte, reduceCtorEq] <;> rfl) | fail), by rfl⟩
end Go.Proofs.YtophnlmdcidolaaDoor
