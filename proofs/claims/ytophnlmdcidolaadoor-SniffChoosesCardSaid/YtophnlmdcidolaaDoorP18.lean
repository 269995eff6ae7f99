import Derived.Test.YtophnlmdcidolaaDoorP17
import Derived.Test.YtophnlmdcidolaaDoorP2
set_option linter.all false
namespace Go.Proofs.YtophnlmdcidolaaDoor
open Go Go.Am
set_option maxHeartbeats 8000000
set_option maxRecDepth 100000
/-- Choose, where the prescan is known at this heap -/
theorem f8_at (data tr : List Nat) (told : Option (List Nat)) (ht : ∀ c ∈ tr, c < 256) (htn : tr.length ≤ 140737488355327) (hto : ∀ n, told = some n → (∀ c ∈ n, c < 256) ∧ n.length ≤ 140737488355327) (σ : AHeap)
    (h16 : pre [239, 187, 191] data = false → tr = [] → Tr Tryd.prog 16 [.str data] σ fun v σ' => v = prescanAV told ∧ σ' = σ) :
    Tr Tryd.prog 8 [.str data, .str tr] σ fun v σ' => v = chosenAV (chosen data tr told) ∧ σ' = σ := by
  refine sk_body (m := 33) Tryd.func8 rfl (by decide) rfl ?_
  have km : bytesOf { data := #[239, 187, 191] } = [239, 187, 191] := rfl
  cases hp : pre [239, 187, 191] data
  · by_cases htr : tr = []
    · have hA := h16 hp htr
      subst htr
      cases told with
      | none =>
        repeat (first
          | refine sk_seq ?_
          | refine sk_region ?_
          | refine sk_ops_nil ?_
          | refine sk_block ?_
          | refine sk_blk ?_
          | refine sk_skip ?_
          | refine sk_exit rfl ?_
          | ((first | (apply sk_r; rfl; rfl) | (apply sk_w; rfl; rfl) | (apply sk_i; rfl) | (apply sk_g; rfl; rfl)); (simp only [go_sem, Nat.reduceLT, Nat.reduceLeDiff, Nat.reduceEqDiff, Nat.reduceAdd, Nat.reduceSub, Nat.reduceMul, reduceIte, reduceCtorEq, km, hp] <;> rfl); (first | refine sk_id ?_ | refine cs_t ?_ | refine cs_f ?_ | refine gs_t rfl ?_ | refine gs_f rfl ?_))
          | ((first | (apply sk_c; rfl; rfl)); (simp only [go_sem, Nat.reduceLT, Nat.reduceLeDiff, Nat.reduceEqDiff, Nat.reduceAdd, Nat.reduceSub, Nat.reduceMul, reduceIte, reduceCtorEq, km, hp] <;> rfl); (first
              | (refine (f17_tr data [239, 187, 191] _).mono ?_; rintro _ τ2 ⟨rfl, hτ2⟩; rw [hτ2, hp])
              | (refine hA.mono ?_; rintro _ τ2 ⟨rfl, hτ2⟩; rw [hτ2, prescanAV])); refine sk_id ?_))
        exact sk_ret ⟨_, (by first | (simp only [aRet, Tryd.results8, aResults, aResult, go_sem, Nat.reduceLT, Nat.reduceLeDiff, Nat.reduceEqDiff, Nat.reduceAdd, Nat.reduceSub, Nat.reduceMul, reduceIte, reduceCtorEq] <;> rfl) | fail), by (unfold chosen; rw [hp]; rfl), by rfl⟩
      | some nm =>
        have s18 := fun σ => f18_tr nm (hto nm rfl).1 (hto nm rfl).2 σ
        by_cases hl : labelOf ((Am.tr B5 nm).map low) = 0
        · have e1 : decide (labelOf ((Am.tr B5 nm).map low) ≠ 0) = false := decide_eq_false (by omega)
          repeat (first
            | refine sk_seq ?_
            | refine sk_region ?_
            | refine sk_ops_nil ?_
            | refine sk_block ?_
            | refine sk_blk ?_
            | refine sk_skip ?_
            | refine sk_exit rfl ?_
            | ((first | (apply sk_r; rfl; rfl) | (apply sk_w; rfl; rfl) | (apply sk_i; rfl) | (apply sk_g; rfl; rfl)); (simp only [go_sem, Nat.reduceLT, Nat.reduceLeDiff, Nat.reduceEqDiff, Nat.reduceAdd, Nat.reduceSub, Nat.reduceMul, reduceIte, reduceCtorEq, km, hp] <;> rfl); (first | refine sk_id ?_ | refine cs_t ?_ | refine cs_f ?_ | refine gs_t rfl ?_ | refine gs_f rfl ?_))
            | ((first | (apply sk_c; rfl; rfl)); (simp only [go_sem, Nat.reduceLT, Nat.reduceLeDiff, Nat.reduceEqDiff, Nat.reduceAdd, Nat.reduceSub, Nat.reduceMul, reduceIte, reduceCtorEq, km, hp] <;> rfl); (first
                | (refine (f17_tr data [239, 187, 191] _).mono ?_; rintro _ τ2 ⟨rfl, hτ2⟩; rw [hτ2, hp])
                | (refine hA.mono ?_; rintro _ τ2 ⟨rfl, hτ2⟩; rw [hτ2, prescanAV])
                | (refine (s18 _).mono ?_; rintro _ τ2 ⟨rfl, hτ2⟩; rw [hτ2, e1])); refine sk_id ?_))
          exact sk_ret ⟨_, (by first | (simp only [aRet, Tryd.results8, aResults, aResult, go_sem, Nat.reduceLT, Nat.reduceLeDiff, Nat.reduceEqDiff, Nat.reduceAdd, Nat.reduceSub, Nat.reduceMul, reduceIte, reduceCtorEq] <;> rfl) | fail), by (rw [chosen_bad hp rfl hl]; rfl), by rfl⟩
        · have e1 : decide (labelOf ((Am.tr B5 nm).map low) ≠ 0) = true := decide_eq_true (by omega)
          repeat (first
            | refine sk_seq ?_
            | refine sk_region ?_
            | refine sk_ops_nil ?_
            | refine sk_block ?_
            | refine sk_blk ?_
            | refine sk_skip ?_
            | refine sk_exit rfl ?_
            | ((first | (apply sk_r; rfl; rfl) | (apply sk_w; rfl; rfl) | (apply sk_i; rfl) | (apply sk_g; rfl; rfl)); (simp only [go_sem, Nat.reduceLT, Nat.reduceLeDiff, Nat.reduceEqDiff, Nat.reduceAdd, Nat.reduceSub, Nat.reduceMul, reduceIte, reduceCtorEq, km, hp] <;> rfl); (first | refine sk_id ?_ | refine cs_t ?_ | refine cs_f ?_ | refine gs_t rfl ?_ | refine gs_f rfl ?_))
            | ((first | (apply sk_c; rfl; rfl)); (simp only [go_sem, Nat.reduceLT, Nat.reduceLeDiff, Nat.reduceEqDiff, Nat.reduceAdd, Nat.reduceSub, Nat.reduceMul, reduceIte, reduceCtorEq, km, hp] <;> rfl); (first
                | (refine (f17_tr data [239, 187, 191] _).mono ?_; rintro _ τ2 ⟨rfl, hτ2⟩; rw [hτ2, hp])
                | (refine hA.mono ?_; rintro _ τ2 ⟨rfl, hτ2⟩; rw [hτ2, prescanAV])
                | (refine (s18 _).mono ?_; rintro _ τ2 ⟨rfl, hτ2⟩; rw [hτ2, e1])); refine sk_id ?_))
          exact sk_ret ⟨_, (by first | (simp only [aRet, Tryd.results8, aResults, aResult, go_sem, Nat.reduceLT, Nat.reduceLeDiff, Nat.reduceEqDiff, Nat.reduceAdd, Nat.reduceSub, Nat.reduceMul, reduceIte, reduceCtorEq] <;> rfl) | fail), by (rw [chosen_ok hp rfl hl]; rfl), by rfl⟩
    · have e0 : beqL tr [] = false := by rw [beqL_eq]; exact decide_eq_false htr
      have s18 := fun σ => f18_tr tr ht htn σ
      by_cases hl : labelOf ((Am.tr B5 tr).map low) = 0
      · have e1 : decide (labelOf ((Am.tr B5 tr).map low) ≠ 0) = false := decide_eq_false (by omega)
        repeat (first
          | refine sk_seq ?_
          | refine sk_region ?_
          | refine sk_ops_nil ?_
          | refine sk_block ?_
          | refine sk_blk ?_
          | refine sk_skip ?_
          | refine sk_exit rfl ?_
          | ((first | (apply sk_r; rfl; rfl) | (apply sk_w; rfl; rfl) | (apply sk_i; rfl) | (apply sk_g; rfl; rfl)); (simp only [go_sem, Nat.reduceLT, Nat.reduceLeDiff, Nat.reduceEqDiff, Nat.reduceAdd, Nat.reduceSub, Nat.reduceMul, reduceIte, reduceCtorEq, km, hp, bytes_nil, e0] <;> rfl); (first | refine sk_id ?_ | refine cs_t ?_ | refine cs_f ?_ | refine gs_t rfl ?_ | refine gs_f rfl ?_))
          | ((first | (apply sk_c; rfl; rfl)); (simp only [go_sem, Nat.reduceLT, Nat.reduceLeDiff, Nat.reduceEqDiff, Nat.reduceAdd, Nat.reduceSub, Nat.reduceMul, reduceIte, reduceCtorEq, km, hp, bytes_nil, e0] <;> rfl); (first
              | (refine (f17_tr data [239, 187, 191] _).mono ?_; rintro _ τ2 ⟨rfl, hτ2⟩; rw [hτ2, hp])
              | (refine (s18 _).mono ?_; rintro _ τ2 ⟨rfl, hτ2⟩; rw [hτ2, e1])); refine sk_id ?_))
        exact sk_ret ⟨_, (by first | (simp only [aRet, Tryd.results8, aResults, aResult, go_sem, Nat.reduceLT, Nat.reduceLeDiff, Nat.reduceEqDiff, Nat.reduceAdd, Nat.reduceSub, Nat.reduceMul, reduceIte, reduceCtorEq] <;> rfl) | fail), by (rw [chosen_bad hp (if_neg htr) hl]; rfl), by rfl⟩
      · have e1 : decide (labelOf ((Am.tr B5 tr).map low) ≠ 0) = true := decide_eq_true (by omega)
        repeat (first
          | refine sk_seq ?_
          | refine sk_region ?_
          | refine sk_ops_nil ?_
          | refine sk_block ?_
          | refine sk_blk ?_
          | refine sk_skip ?_
          | refine sk_exit rfl ?_
          | ((first | (apply sk_r; rfl; rfl) | (apply sk_w; rfl; rfl) | (apply sk_i; rfl) | (apply sk_g; rfl; rfl)); (simp only [go_sem, Nat.reduceLT, Nat.reduceLeDiff, Nat.reduceEqDiff, Nat.reduceAdd, Nat.reduceSub, Nat.reduceMul, reduceIte, reduceCtorEq, km, hp, bytes_nil, e0] <;> rfl); (first | refine sk_id ?_ | refine cs_t ?_ | refine cs_f ?_ | refine gs_t rfl ?_ | refine gs_f rfl ?_))
          | ((first | (apply sk_c; rfl; rfl)); (simp only [go_sem, Nat.reduceLT, Nat.reduceLeDiff, Nat.reduceEqDiff, Nat.reduceAdd, Nat.reduceSub, Nat.reduceMul, reduceIte, reduceCtorEq, km, hp, bytes_nil, e0] <;> rfl); (first
              | (refine (f17_tr data [239, 187, 191] _).mono ?_; rintro _ τ2 ⟨rfl, hτ2⟩; rw [hτ2, hp])
              | (refine (s18 _).mono ?_; rintro _ τ2 ⟨rfl, hτ2⟩; rw [hτ2, e1])); refine sk_id ?_))
        exact sk_ret ⟨_, (by first | (simp only [aRet, Tryd.results8, aResults, aResult, go_sem, Nat.reduceLT, Nat.reduceLeDiff, Nat.reduceEqDiff, Nat.reduceAdd, Nat.reduceSub, Nat.reduceMul, reduceIte, reduceCtorEq] <;> rfl) | fail), by (rw [chosen_ok hp (if_neg htr) hl]; rfl), by rfl⟩
  · repeat (first
      | refine sk_seq ?_
      | refine sk_region ?_
      | refine sk_ops_nil ?_
      | refine sk_block ?_
      | refine sk_blk ?_
      | refine sk_skip ?_
      | refine sk_exit rfl ?_
      | ((first | (apply sk_r; rfl; rfl) | (apply sk_w; rfl; rfl) | (apply sk_i; rfl) | (apply sk_g; rfl; rfl)); (simp only [go_sem, Nat.reduceLT, Nat.reduceLeDiff, Nat.reduceEqDiff, Nat.reduceAdd, Nat.reduceSub, Nat.reduceMul, reduceIte, reduceCtorEq, km, hp] <;> rfl); (first | refine sk_id ?_ | refine cs_t ?_ | refine cs_f ?_ | refine gs_t rfl ?_ | refine gs_f rfl ?_))
      | ((first | (apply sk_c; rfl; rfl)); (simp only [go_sem, Nat.reduceLT, Nat.reduceLeDiff, Nat.reduceEqDiff, Nat.reduceAdd, Nat.reduceSub, Nat.reduceMul, reduceIte, reduceCtorEq, km, hp] <;> rfl); (first
          | (refine (f17_tr data [239, 187, 191] _).mono ?_; rintro _ τ2 ⟨rfl, hτ2⟩; rw [hτ2, hp])); refine sk_id ?_))
    exact sk_ret ⟨_, (by first | (simp only [aRet, Tryd.results8, aResults, aResult, go_sem, Nat.reduceLT, Nat.reduceLeDiff, Nat.reduceEqDiff, Nat.reduceAdd, Nat.reduceSub, Nat.reduceMul, reduceIte, reduceCtorEq] <;> rfl) | fail), by (unfold chosen; rw [hp]; rfl), by rfl⟩
theorem speaks_tr (m : Int) : Tr Tryd.prog 7 [] (heapM m) fun v σ' => v = .bool true ∧ σ'.m.get 0 = some (.cells [.int .i64 m] true 0 []) := by
  have h : (match evFun Tryd.prog ext2 2000 40 7 [] (heapM m) with | some (v, σ') => some (v, σ'.m.get 0) | none => none) = some (.bool true, some (.cells [.int .i64 m] true 0 [])) := by kernel_rfl
  cases e : evFun Tryd.prog ext2 2000 40 7 [] (heapM m) with
  | none => rw [e] at h; cases h
  | some r =>
    obtain ⟨v, σ'⟩ := r
    rw [e] at h
    simp only [Option.some.injEq, Prod.mk.injEq] at h
    exact (evFun_sound ext2_ok mixed 2000 40 _ _ _ _ _ e).mono fun v' τ ⟨h1, h2⟩ => by subst h1; subst h2; exact h
theorem f3_tr (m : Int) (data tr : List Nat) (hd : ∀ c ∈ data, c < 256) (ht : ∀ c ∈ tr, c < 256) (htn : tr.length ≤ 140737488355327) :
    Tr Tryd.prog 3 [.str data, .str tr] (heapM m) fun v _ => v = .bool true := by
  refine sk_body (m := 83) Tryd.func3 rfl (by decide) rfl ?_
  have km : bytesOf { data := #[239, 187, 191] } = [239, 187, 191] := rfl
  have h1024 : (data.take 1024).length ≤ 1024 := by rw [List.length_take]; omega
  have hto : ∀ n, prescanOf data = some n → (∀ c ∈ n, c < 256) ∧ n.length ≤ 140737488355327 := fun n h => by
    have := prescan_ok (fun c hc => hd c (List.mem_of_mem_take hc)) h
    exact ⟨this.1, by have := this.2; omega⟩
  repeat (first
    | refine sk_seq ?_
    | refine sk_region ?_
    | refine sk_ops_nil ?_
    | refine sk_block ?_
    | refine sk_blk ?_
    | refine sk_skip ?_
    | refine sk_exit rfl ?_
    | ((first | (apply sk_r; rfl; rfl) | (apply sk_w; rfl; rfl) | (apply sk_i; rfl) | (apply sk_g; rfl; rfl)); (simp only [go_sem, Nat.reduceLT, Nat.reduceLeDiff, Nat.reduceEqDiff, Nat.reduceAdd, Nat.reduceSub, Nat.reduceMul, reduceIte, reduceCtorEq] <;> rfl); (first | refine sk_id ?_ | refine cs_t ?_ | refine cs_f ?_ | refine gs_t rfl ?_ | refine gs_f rfl ?_))
    | ((first | (apply sk_c; rfl; rfl)); (simp only [go_sem, Nat.reduceLT, Nat.reduceLeDiff, Nat.reduceEqDiff, Nat.reduceAdd, Nat.reduceSub, Nat.reduceMul, reduceIte, reduceCtorEq] <;> rfl); (first
        | (refine (speaks_tr m).mono ?_; rintro _ τ ⟨rfl, hτ⟩)); refine sk_id ?_))
  have s8 := f8_at data tr (prescanOf data) ht htn hto τ (fun _ _ => f16_tr data hd hτ)
  have s9 := fun σ => f9_tr data hd σ
  have t3 : Int.toNat 3 = 3 := rfl
  have hpre : pre [239, 187, 191] data = (decide (2 < data.length) && beqL (data.take 3) [239, 187, 191]) := by
    unfold pre
    rw [beqL_eq, Bool.eq_iff_iff, Bool.and_eq_true, decide_eq_true_eq, decide_eq_true_eq, decide_eq_true_eq]
    constructor
    · intro h
      have := congrArg List.length h
      simp only [List.length_take, List.length_cons, List.length_nil] at this
      exact ⟨by omega, h⟩
    · exact fun h => h.2
  obtain ⟨r, hr⟩ : ∃ r, r = chosen data tr (prescanOf data) := ⟨_, rfl⟩
  rw [← hr] at s8
  cases hp : pre [239, 187, 191] data
  · have hpre' := hpre
    rw [hp] at hpre'
    have head : ∃ g l3 : Bool, decide ((data.length : Int) > 2) = g ∧ beqL (data.take 3) [239, 187, 191] = l3 ∧ (g = true → (3 : Int) ≤ (data.length : Int)) ∧ (g = false ∨ g = true ∧ l3 = false) := by
      refine ⟨_, _, rfl, rfl, fun h => by have := of_decide_eq_true h; omega, ?_⟩
      by_cases h : 2 < data.length
      · rw [decide_eq_true h, Bool.true_and] at hpre'
        exact .inr ⟨decide_eq_true (by omega), hpre'.symm⟩
      · exact .inl (decide_eq_false (by omega))
    obtain ⟨g, l3, g1, g2, g3, g4⟩ := head
    have z3 : (0 : Int) ≤ 3 := by omega
    have z0 : (0 : Int) ≤ 0 := by omega
    by_cases htr : tr = []
    · have hb : beqL tr [] = true := by rw [beqL_eq]; exact decide_eq_true htr
      cases hps : prescanOf data with
      | none =>
        have hr : r = (2, 0, false) := by rw [hr]; unfold chosen; rw [hp, hps, if_pos htr]; rfl
        rw [hr] at s8
        rw [hps] at s9
        simp only [chosenAV, prescanAV] at s8 s9
        have s10 := fun σ => f10_tr [] (by simp) (by simp) σ
        rcases g4 with rfl | ⟨rfl, rfl⟩
        · repeat (first
            | refine sk_seq ?_
            | refine sk_region ?_
            | refine sk_ops_nil ?_
            | refine sk_block ?_
            | refine sk_blk ?_
            | refine sk_skip ?_
            | refine sk_exit rfl ?_
            | ((first | (apply sk_r; rfl; rfl) | (apply sk_w; rfl; rfl) | (apply sk_i; rfl) | (apply sk_g; rfl; rfl)); (simp only [go_sem, Nat.reduceLT, Nat.reduceLeDiff, Nat.reduceEqDiff, Nat.reduceAdd, Nat.reduceSub, Nat.reduceMul, reduceIte, reduceCtorEq, km, g1, hb, bytes_nil] <;> rfl); (first | refine sk_id ?_ | refine cs_t ?_ | refine cs_f ?_ | refine gs_t rfl ?_ | refine gs_f rfl ?_))
            | ((first | (apply sk_c; rfl; rfl)); (simp only [go_sem, Nat.reduceLT, Nat.reduceLeDiff, Nat.reduceEqDiff, Nat.reduceAdd, Nat.reduceSub, Nat.reduceMul, reduceIte, reduceCtorEq, km, g1, hb, bytes_nil] <;> rfl); (first
                | (refine s8.mono ?_; rintro _ τ2 ⟨rfl, hτ2⟩; rw [hτ2])
                | (refine (s9 _).mono ?_; rintro _ τ2 ⟨rfl, hτ2⟩; rw [hτ2])
                | (refine (s10 _).mono ?_; rintro _ τ2 ⟨rfl, hτ2⟩; rw [hτ2])); refine sk_id ?_))
          exact sk_ret ⟨_, (by first | (simp only [aRet, Tryd.results3, aResults, aResult, go_sem, Nat.reduceLT, Nat.reduceLeDiff, Nat.reduceEqDiff, Nat.reduceAdd, Nat.reduceSub, Nat.reduceMul, reduceIte, reduceCtorEq] <;> rfl) | fail), rfl⟩
        · have g3 := g3 rfl
          repeat (first
            | refine sk_seq ?_
            | refine sk_region ?_
            | refine sk_ops_nil ?_
            | refine sk_block ?_
            | refine sk_blk ?_
            | refine sk_skip ?_
            | refine sk_exit rfl ?_
            | ((first | (apply sk_r; rfl; rfl) | (apply sk_w; rfl; rfl) | (apply sk_i; rfl) | (apply sk_g; rfl; rfl)); (simp only [go_sem, Nat.reduceLT, Nat.reduceLeDiff, Nat.reduceEqDiff, Nat.reduceAdd, Nat.reduceSub, Nat.reduceMul, reduceIte, reduceCtorEq, km, g1, g2, g3, t3, z3, z0, hb, bytes_nil, and_self, Int.le_refl, List.drop_zero, Int.toNat_zero] <;> rfl); (first | refine sk_id ?_ | refine cs_t ?_ | refine cs_f ?_ | refine gs_t rfl ?_ | refine gs_f rfl ?_))
            | ((first | (apply sk_c; rfl; rfl)); (simp only [go_sem, Nat.reduceLT, Nat.reduceLeDiff, Nat.reduceEqDiff, Nat.reduceAdd, Nat.reduceSub, Nat.reduceMul, reduceIte, reduceCtorEq, km, g1, g2, g3, t3, z3, z0, hb, bytes_nil, and_self, Int.le_refl, List.drop_zero, Int.toNat_zero] <;> rfl); (first
                | (refine s8.mono ?_; rintro _ τ2 ⟨rfl, hτ2⟩; rw [hτ2])
                | (refine (s9 _).mono ?_; rintro _ τ2 ⟨rfl, hτ2⟩; rw [hτ2])
                | (refine (s10 _).mono ?_; rintro _ τ2 ⟨rfl, hτ2⟩; rw [hτ2])); refine sk_id ?_))
          exact sk_ret ⟨_, (by first | (simp only [aRet, Tryd.results3, aResults, aResult, go_sem, Nat.reduceLT, Nat.reduceLeDiff, Nat.reduceEqDiff, Nat.reduceAdd, Nat.reduceSub, Nat.reduceMul, reduceIte, reduceCtorEq] <;> rfl) | fail), rfl⟩
      | some n =>
        obtain ⟨w, hw⟩ : ∃ w, labelOf ((Am.tr B5 n).map low) = w := ⟨_, rfl⟩
        have s10 := fun σ => f10_tr n (hto n hps).1 (hto n hps).2 σ
        rw [hw] at s10
        rw [hps] at s9
        simp only [prescanAV] at s9
        by_cases hw0 : w = 0
        · have hr : r = (2, 0, true) := by rw [hr, hps]; exact chosen_bad hp (by rw [if_pos htr]) (by rw [hw, hw0])
          rw [hr] at s8
          simp only [chosenAV] at s8
          subst hw0
          rcases g4 with rfl | ⟨rfl, rfl⟩
          · repeat (first
              | refine sk_seq ?_
              | refine sk_region ?_
              | refine sk_ops_nil ?_
              | refine sk_block ?_
              | refine sk_blk ?_
              | refine sk_skip ?_
              | refine sk_exit rfl ?_
              | ((first | (apply sk_r; rfl; rfl) | (apply sk_w; rfl; rfl) | (apply sk_i; rfl) | (apply sk_g; rfl; rfl)); (simp only [go_sem, Nat.reduceLT, Nat.reduceLeDiff, Nat.reduceEqDiff, Nat.reduceAdd, Nat.reduceSub, Nat.reduceMul, reduceIte, reduceCtorEq, km, g1, hb, bytes_nil] <;> rfl); (first | refine sk_id ?_ | refine cs_t ?_ | refine cs_f ?_ | refine gs_t rfl ?_ | refine gs_f rfl ?_))
              | ((first | (apply sk_c; rfl; rfl)); (simp only [go_sem, Nat.reduceLT, Nat.reduceLeDiff, Nat.reduceEqDiff, Nat.reduceAdd, Nat.reduceSub, Nat.reduceMul, reduceIte, reduceCtorEq, km, g1, hb, bytes_nil] <;> rfl); (first
                  | (refine s8.mono ?_; rintro _ τ2 ⟨rfl, hτ2⟩; rw [hτ2])
                  | (refine (s9 _).mono ?_; rintro _ τ2 ⟨rfl, hτ2⟩; rw [hτ2])
                  | (refine (s10 _).mono ?_; rintro _ τ2 ⟨rfl, hτ2⟩; rw [hτ2])); refine sk_id ?_))
            exact sk_ret ⟨_, (by first | (simp only [aRet, Tryd.results3, aResults, aResult, go_sem, Nat.reduceLT, Nat.reduceLeDiff, Nat.reduceEqDiff, Nat.reduceAdd, Nat.reduceSub, Nat.reduceMul, reduceIte, reduceCtorEq] <;> rfl) | fail), rfl⟩
          · have g3 := g3 rfl
            repeat (first
              | refine sk_seq ?_
              | refine sk_region ?_
              | refine sk_ops_nil ?_
              | refine sk_block ?_
              | refine sk_blk ?_
              | refine sk_skip ?_
              | refine sk_exit rfl ?_
              | ((first | (apply sk_r; rfl; rfl) | (apply sk_w; rfl; rfl) | (apply sk_i; rfl) | (apply sk_g; rfl; rfl)); (simp only [go_sem, Nat.reduceLT, Nat.reduceLeDiff, Nat.reduceEqDiff, Nat.reduceAdd, Nat.reduceSub, Nat.reduceMul, reduceIte, reduceCtorEq, km, g1, g2, g3, t3, z3, z0, hb, bytes_nil, and_self, Int.le_refl, List.drop_zero, Int.toNat_zero] <;> rfl); (first | refine sk_id ?_ | refine cs_t ?_ | refine cs_f ?_ | refine gs_t rfl ?_ | refine gs_f rfl ?_))
              | ((first | (apply sk_c; rfl; rfl)); (simp only [go_sem, Nat.reduceLT, Nat.reduceLeDiff, Nat.reduceEqDiff, Nat.reduceAdd, Nat.reduceSub, Nat.reduceMul, reduceIte, reduceCtorEq, km, g1, g2, g3, t3, z3, z0, hb, bytes_nil, and_self, Int.le_refl, List.drop_zero, Int.toNat_zero] <;> rfl); (first
                  | (refine s8.mono ?_; rintro _ τ2 ⟨rfl, hτ2⟩; rw [hτ2])
                  | (refine (s9 _).mono ?_; rintro _ τ2 ⟨rfl, hτ2⟩; rw [hτ2])
                  | (refine (s10 _).mono ?_; rintro _ τ2 ⟨rfl, hτ2⟩; rw [hτ2])); refine sk_id ?_))
            exact sk_ret ⟨_, (by first | (simp only [aRet, Tryd.results3, aResults, aResult, go_sem, Nat.reduceLT, Nat.reduceLeDiff, Nat.reduceEqDiff, Nat.reduceAdd, Nat.reduceSub, Nat.reduceMul, reduceIte, reduceCtorEq] <;> rfl) | fail), rfl⟩
        · have hr : r = (w, 0, false) := by rw [hr, hps, ← hw]; exact chosen_ok hp (by rw [if_pos htr]) (by rw [hw]; exact hw0)
          have q1 : ((w : Int) == 0) = false := by simp; omega
          rw [hr] at s8
          simp only [chosenAV] at s8
          rcases g4 with rfl | ⟨rfl, rfl⟩
          · repeat (first
              | refine sk_seq ?_
              | refine sk_region ?_
              | refine sk_ops_nil ?_
              | refine sk_block ?_
              | refine sk_blk ?_
              | refine sk_skip ?_
              | refine sk_exit rfl ?_
              | ((first | (apply sk_r; rfl; rfl) | (apply sk_w; rfl; rfl) | (apply sk_i; rfl) | (apply sk_g; rfl; rfl)); (simp only [go_sem, Nat.reduceLT, Nat.reduceLeDiff, Nat.reduceEqDiff, Nat.reduceAdd, Nat.reduceSub, Nat.reduceMul, reduceIte, reduceCtorEq, km, g1, hb, bytes_nil, q1, beq_self_eq_true] <;> rfl); (first | refine sk_id ?_ | refine cs_t ?_ | refine cs_f ?_ | refine gs_t rfl ?_ | refine gs_f rfl ?_))
              | ((first | (apply sk_c; rfl; rfl)); (simp only [go_sem, Nat.reduceLT, Nat.reduceLeDiff, Nat.reduceEqDiff, Nat.reduceAdd, Nat.reduceSub, Nat.reduceMul, reduceIte, reduceCtorEq, km, g1, hb, bytes_nil, q1, beq_self_eq_true] <;> rfl); (first
                  | (refine s8.mono ?_; rintro _ τ2 ⟨rfl, hτ2⟩; rw [hτ2])
                  | (refine (s9 _).mono ?_; rintro _ τ2 ⟨rfl, hτ2⟩; rw [hτ2])
                  | (refine (s10 _).mono ?_; rintro _ τ2 ⟨rfl, hτ2⟩; rw [hτ2])); refine sk_id ?_))
            exact sk_ret ⟨_, (by first | (simp only [aRet, Tryd.results3, aResults, aResult, go_sem, Nat.reduceLT, Nat.reduceLeDiff, Nat.reduceEqDiff, Nat.reduceAdd, Nat.reduceSub, Nat.reduceMul, reduceIte, reduceCtorEq] <;> rfl) | fail), rfl⟩
          · have g3 := g3 rfl
            repeat (first
              | refine sk_seq ?_
              | refine sk_region ?_
              | refine sk_ops_nil ?_
              | refine sk_block ?_
              | refine sk_blk ?_
              | refine sk_skip ?_
              | refine sk_exit rfl ?_
              | ((first | (apply sk_r; rfl; rfl) | (apply sk_w; rfl; rfl) | (apply sk_i; rfl) | (apply sk_g; rfl; rfl)); (simp only [go_sem, Nat.reduceLT, Nat.reduceLeDiff, Nat.reduceEqDiff, Nat.reduceAdd, Nat.reduceSub, Nat.reduceMul, reduceIte, reduceCtorEq, km, g1, g2, g3, t3, z3, z0, hb, bytes_nil, q1, beq_self_eq_true, and_self, Int.le_refl, List.drop_zero, Int.toNat_zero] <;> rfl); (first | refine sk_id ?_ | refine cs_t ?_ | refine cs_f ?_ | refine gs_t rfl ?_ | refine gs_f rfl ?_))
              | ((first | (apply sk_c; rfl; rfl)); (simp only [go_sem, Nat.reduceLT, Nat.reduceLeDiff, Nat.reduceEqDiff, Nat.reduceAdd, Nat.reduceSub, Nat.reduceMul, reduceIte, reduceCtorEq, km, g1, g2, g3, t3, z3, z0, hb, bytes_nil, q1, beq_self_eq_true, and_self, Int.le_refl, List.drop_zero, Int.toNat_zero] <;> rfl); (first
                  | (refine s8.mono ?_; rintro _ τ2 ⟨rfl, hτ2⟩; rw [hτ2])
                  | (refine (s9 _).mono ?_; rintro _ τ2 ⟨rfl, hτ2⟩; rw [hτ2])
                  | (refine (s10 _).mono ?_; rintro _ τ2 ⟨rfl, hτ2⟩; rw [hτ2])); refine sk_id ?_))
            exact sk_ret ⟨_, (by first | (simp only [aRet, Tryd.results3, aResults, aResult, go_sem, Nat.reduceLT, Nat.reduceLeDiff, Nat.reduceEqDiff, Nat.reduceAdd, Nat.reduceSub, Nat.reduceMul, reduceIte, reduceCtorEq] <;> rfl) | fail), rfl⟩
    · have hb : beqL tr [] = false := by rw [beqL_eq]; exact decide_eq_false htr
      obtain ⟨w, hw⟩ : ∃ w, labelOf ((Am.tr B5 tr).map low) = w := ⟨_, rfl⟩
      have s10 := fun σ => f10_tr tr ht htn σ
      rw [hw] at s10
      by_cases hw0 : w = 0
      · have hr : r = (2, 0, true) := by rw [hr]; exact chosen_bad hp (by rw [if_neg htr]) (by rw [hw, hw0])
        rw [hr] at s8
        simp only [chosenAV] at s8
        subst hw0
        rcases g4 with rfl | ⟨rfl, rfl⟩
        · repeat (first
            | refine sk_seq ?_
            | refine sk_region ?_
            | refine sk_ops_nil ?_
            | refine sk_block ?_
            | refine sk_blk ?_
            | refine sk_skip ?_
            | refine sk_exit rfl ?_
            | ((first | (apply sk_r; rfl; rfl) | (apply sk_w; rfl; rfl) | (apply sk_i; rfl) | (apply sk_g; rfl; rfl)); (simp only [go_sem, Nat.reduceLT, Nat.reduceLeDiff, Nat.reduceEqDiff, Nat.reduceAdd, Nat.reduceSub, Nat.reduceMul, reduceIte, reduceCtorEq, km, g1, hb, bytes_nil] <;> rfl); (first | refine sk_id ?_ | refine cs_t ?_ | refine cs_f ?_ | refine gs_t rfl ?_ | refine gs_f rfl ?_))
            | ((first | (apply sk_c; rfl; rfl)); (simp only [go_sem, Nat.reduceLT, Nat.reduceLeDiff, Nat.reduceEqDiff, Nat.reduceAdd, Nat.reduceSub, Nat.reduceMul, reduceIte, reduceCtorEq, km, g1, hb, bytes_nil] <;> rfl); (first
                | (refine s8.mono ?_; rintro _ τ2 ⟨rfl, hτ2⟩; rw [hτ2])
                | (refine (s10 _).mono ?_; rintro _ τ2 ⟨rfl, hτ2⟩; rw [hτ2])); refine sk_id ?_))
          exact sk_ret ⟨_, (by first | (simp only [aRet, Tryd.results3, aResults, aResult, go_sem, Nat.reduceLT, Nat.reduceLeDiff, Nat.reduceEqDiff, Nat.reduceAdd, Nat.reduceSub, Nat.reduceMul, reduceIte, reduceCtorEq] <;> rfl) | fail), rfl⟩
        · have g3 := g3 rfl
          repeat (first
            | refine sk_seq ?_
            | refine sk_region ?_
            | refine sk_ops_nil ?_
            | refine sk_block ?_
            | refine sk_blk ?_
            | refine sk_skip ?_
            | refine sk_exit rfl ?_
            | ((first | (apply sk_r; rfl; rfl) | (apply sk_w; rfl; rfl) | (apply sk_i; rfl) | (apply sk_g; rfl; rfl)); (simp only [go_sem, Nat.reduceLT, Nat.reduceLeDiff, Nat.reduceEqDiff, Nat.reduceAdd, Nat.reduceSub, Nat.reduceMul, reduceIte, reduceCtorEq, km, g1, g2, g3, t3, z3, z0, hb, bytes_nil, and_self, Int.le_refl, List.drop_zero, Int.toNat_zero] <;> rfl); (first | refine sk_id ?_ | refine cs_t ?_ | refine cs_f ?_ | refine gs_t rfl ?_ | refine gs_f rfl ?_))
            | ((first | (apply sk_c; rfl; rfl)); (simp only [go_sem, Nat.reduceLT, Nat.reduceLeDiff, Nat.reduceEqDiff, Nat.reduceAdd, Nat.reduceSub, Nat.reduceMul, reduceIte, reduceCtorEq, km, g1, g2, g3, t3, z3, z0, hb, bytes_nil, and_self, Int.le_refl, List.drop_zero, Int.toNat_zero] <;> rfl); (first
                | (refine s8.mono ?_; rintro _ τ2 ⟨rfl, hτ2⟩; rw [hτ2])
                | (refine (s10 _).mono ?_; rintro _ τ2 ⟨rfl, hτ2⟩; rw [hτ2])); refine sk_id ?_))
          exact sk_ret ⟨_, (by first | (simp only [aRet, Tryd.results3, aResults, aResult, go_sem, Nat.reduceLT, Nat.reduceLeDiff, Nat.reduceEqDiff, Nat.reduceAdd, Nat.reduceSub, Nat.reduceMul, reduceIte, reduceCtorEq] <;> rfl) | fail), rfl⟩
      · have hr : r = (w, 0, false) := by rw [hr, ← hw]; exact chosen_ok hp (by rw [if_neg htr]) (by rw [hw]; exact hw0)
        have q1 : ((w : Int) == 0) = false := by simp; omega
        rw [hr] at s8
        simp only [chosenAV] at s8
        rcases g4 with rfl | ⟨rfl, rfl⟩
        · repeat (first
            | refine sk_seq ?_
            | refine sk_region ?_
            | refine sk_ops_nil ?_
            | refine sk_block ?_
            | refine sk_blk ?_
            | refine sk_skip ?_
            | refine sk_exit rfl ?_
            | ((first | (apply sk_r; rfl; rfl) | (apply sk_w; rfl; rfl) | (apply sk_i; rfl) | (apply sk_g; rfl; rfl)); (simp only [go_sem, Nat.reduceLT, Nat.reduceLeDiff, Nat.reduceEqDiff, Nat.reduceAdd, Nat.reduceSub, Nat.reduceMul, reduceIte, reduceCtorEq, km, g1, hb, bytes_nil, q1, beq_self_eq_true] <;> rfl); (first | refine sk_id ?_ | refine cs_t ?_ | refine cs_f ?_ | refine gs_t rfl ?_ | refine gs_f rfl ?_))
            | ((first | (apply sk_c; rfl; rfl)); (simp only [go_sem, Nat.reduceLT, Nat.reduceLeDiff, Nat.reduceEqDiff, Nat.reduceAdd, Nat.reduceSub, Nat.reduceMul, reduceIte, reduceCtorEq, km, g1, hb, bytes_nil, q1, beq_self_eq_true] <;> rfl); (first
                | (refine s8.mono ?_; rintro _ τ2 ⟨rfl, hτ2⟩; rw [hτ2])
                | (refine (s10 _).mono ?_; rintro _ τ2 ⟨rfl, hτ2⟩; rw [hτ2])); refine sk_id ?_))
          exact sk_ret ⟨_, (by first | (simp only [aRet, Tryd.results3, aResults, aResult, go_sem, Nat.reduceLT, Nat.reduceLeDiff, Nat.reduceEqDiff, Nat.reduceAdd, Nat.reduceSub, Nat.reduceMul, reduceIte, reduceCtorEq] <;> rfl) | fail), rfl⟩
        · have g3 := g3 rfl
          repeat (first
            | refine sk_seq ?_
            | refine sk_region ?_
            | refine sk_ops_nil ?_
            | refine sk_block ?_
            | refine sk_blk ?_
            | refine sk_skip ?_
            | refine sk_exit rfl ?_
            | ((first | (apply sk_r; rfl; rfl) | (apply sk_w; rfl; rfl) | (apply sk_i; rfl) | (apply sk_g; rfl; rfl)); (simp only [go_sem, Nat.reduceLT, Nat.reduceLeDiff, Nat.reduceEqDiff, Nat.reduceAdd, Nat.reduceSub, Nat.reduceMul, reduceIte, reduceCtorEq, km, g1, g2, g3, t3, z3, z0, hb, bytes_nil, q1, beq_self_eq_true, and_self, Int.le_refl, List.drop_zero, Int.toNat_zero] <;> rfl); (first | refine sk_id ?_ | refine cs_t ?_ | refine cs_f ?_ | refine gs_t rfl ?_ | refine gs_f rfl ?_))
            | ((first | (apply sk_c; rfl; rfl)); (simp only [go_sem, Nat.reduceLT, Nat.reduceLeDiff, Nat.reduceEqDiff, Nat.reduceAdd, Nat.reduceSub, Nat.reduceMul, reduceIte, reduceCtorEq, km, g1, g2, g3, t3, z3, z0, hb, bytes_nil, q1, beq_self_eq_true, and_self, Int.le_refl, List.drop_zero, Int.toNat_zero] <;> rfl); (first
                | (refine s8.mono ?_; rintro _ τ2 ⟨rfl, hτ2⟩; rw [hτ2])
                | (refine (s10 _).mono ?_; rintro _ τ2 ⟨rfl, hτ2⟩; rw [hτ2])); refine sk_id ?_))
          exact sk_ret ⟨_, (by first | (simp only [aRet, Tryd.results3, aResults, aResult, go_sem, Nat.reduceLT, Nat.reduceLeDiff, Nat.reduceEqDiff, Nat.reduceAdd, Nat.reduceSub, Nat.reduceMul, reduceIte, reduceCtorEq] <;> rfl) | fail), rfl⟩
  · rw [hp] at hpre
    have hpre := hpre.symm
    rw [Bool.and_eq_true, decide_eq_true_eq] at hpre
    have hr : r = (1, 3, false) := by rw [hr]; unfold chosen; rw [hp]; rfl
    rw [hr] at s8
    simp only [chosenAV] at s8
    have g1 : decide ((data.length : Int) > 2) = true := decide_eq_true (by omega)
    have g2 := hpre.2
    have g3 : (3 : Int) ≤ (data.length : Int) := by omega
    have z3 : (0 : Int) ≤ 3 := by omega
    have z0 : (0 : Int) ≤ 0 := by omega
    repeat (first
      | refine sk_seq ?_
      | refine sk_region ?_
      | refine sk_ops_nil ?_
      | refine sk_block ?_
      | refine sk_blk ?_
      | refine sk_skip ?_
      | refine sk_exit rfl ?_
      | ((first | (apply sk_r; rfl; rfl) | (apply sk_w; rfl; rfl) | (apply sk_i; rfl) | (apply sk_g; rfl; rfl)); (simp only [go_sem, Nat.reduceLT, Nat.reduceLeDiff, Nat.reduceEqDiff, Nat.reduceAdd, Nat.reduceSub, Nat.reduceMul, reduceIte, reduceCtorEq, km, g1, g2, g3, t3, z3, z0, and_self, Int.le_refl, List.drop_zero, Int.toNat_zero] <;> rfl); (first | refine sk_id ?_ | refine cs_t ?_ | refine cs_f ?_ | refine gs_t rfl ?_ | refine gs_f rfl ?_))
      | ((first | (apply sk_c; rfl; rfl)); (simp only [go_sem, Nat.reduceLT, Nat.reduceLeDiff, Nat.reduceEqDiff, Nat.reduceAdd, Nat.reduceSub, Nat.reduceMul, reduceIte, reduceCtorEq, km, g1, g2, g3, t3, z3, z0, and_self, Int.le_refl, List.drop_zero, Int.toNat_zero] <;> rfl); (first
          | (refine s8.mono ?_; rintro _ τ2 ⟨rfl, hτ2⟩; rw [hτ2])); refine sk_id ?_))
    exact sk_ret ⟨_, (by first | (simp only [aRet, Tryd.results3, aResults, aResult, go_sem, Nat.reduceLT, Nat.reduceLeDiff, Nat.reduceEqDiff, Nat.reduceAdd, Nat.reduceSub, Nat.reduceMul, reduceIte, reduceCtorEq] <;> rfl) | fail), rfl⟩
end Go.Proofs.YtophnlmdcidolaaDoor
