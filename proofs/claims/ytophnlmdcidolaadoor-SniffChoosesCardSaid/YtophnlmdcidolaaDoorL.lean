import Derived.Test.YtophnlmdcidolaaDoorK
import Derived.Test.YtophnlmdcidolaaDoorJ
import Derived.Test.YtophnlmdcidolaaDoorD
set_option linter.all false
namespace Go.Proofs.YtophnlmdcidolaaDoor
open Go Go.Am
set_option maxHeartbeats 8000000
set_option maxRecDepth 100000

theorem slTy49 : SlTy Tryd.prog 49 1 := ⟨9, (Tryd.prog.info? 9).get (by kernel_rfl), _, Tryd.underlying49, (Option.some_get _).symm, by kernel_rfl, Nat.le_of_ble_eq_true (by kernel_rfl), zo9, by kernel_rfl, by decide⟩

def prescanAV : Option (List Nat) → AV
  | none => .tuple [.str [], .bool false]
  | some n => .tuple [.str n, .bool true]
/-- coding, length of the mark, bad -/
def chosen (data tr : List Nat) (told : Option (List Nat)) : Nat × Nat × Bool :=
  if pre [239, 187, 191] data then (1, 3, false)
  else match (if tr = [] then told else some tr) with
    | none => (2, 0, false)
    | some n => if labelOf ((Am.tr B5 n).map low) = 0 then (2, 0, true) else (labelOf ((Am.tr B5 n).map low), 0, false)
def chosenAV (r : Nat × Nat × Bool) : AV := .tuple [.int .i64 r.1, .int .i64 r.2.1, .bool r.2.2]

theorem chosen_bad {data tr : List Nat} {told : Option (List Nat)} {n : List Nat} (hp : pre [239, 187, 191] data = false) (h : (if tr = [] then told else some tr) = some n) (hl : labelOf ((Am.tr B5 n).map low) = 0) : chosen data tr told = (2, 0, true) := by
  unfold chosen; rw [hp, h]; simp [hl]
theorem chosen_ok {data tr : List Nat} {told : Option (List Nat)} {n : List Nat} (hp : pre [239, 187, 191] data = false) (h : (if tr = [] then told else some tr) = some n) (hl : labelOf ((Am.tr B5 n).map low) ≠ 0) :
    chosen data tr told = (labelOf ((Am.tr B5 n).map low), 0, false) := by
  unfold chosen; rw [hp, h]; simp [hl]
theorem f8_tr (data tr : List Nat) (told : Option (List Nat)) (ht : ∀ c ∈ tr, c < 256) (htn : tr.length ≤ 140737488355327) (hto : ∀ n, told = some n → (∀ c ∈ n, c < 256) ∧ n.length ≤ 140737488355327)
    (h16 : ∀ σ, pre [239, 187, 191] data = false → tr = [] → Tr Tryd.prog 16 [.str data] σ fun v σ' => v = prescanAV told ∧ σ' = σ) (σ : AHeap) :
    Tr Tryd.prog 8 [.str data, .str tr] σ fun v σ' => v = chosenAV (chosen data tr told) ∧ σ' = σ := by
  refine sk_body (m := 33) Tryd.func8 rfl (by decide) rfl ?_
  have km : bytesOf { data := #[239, 187, 191] } = [239, 187, 191] := rfl
  cases hp : pre [239, 187, 191] data
  · by_cases htr : tr = []
    · have hA := fun σ => h16 σ hp htr
      subst htr
      cases told with
      | none =>
        repeat (first
          | refine sk_seq ?_
          | refine sk_region ?_
          | refine sk_ops_nil ?_
          | refine sk_block ?_
          | refine sk_blk ?_
          | refine sk_skip ?_
          | refine sk_exit rfl ?_
          | ((first | (apply sk_r; rfl; rfl) | (apply sk_w; rfl; rfl) | (apply sk_i; rfl) | (apply sk_g; rfl; rfl)); (simp only [go_sem, Nat.reduceLT, Nat.reduceLeDiff, Nat.reduceEqDiff, Nat.reduceAdd, Nat.reduceSub, Nat.reduceMul, reduceIte, reduceCtorEq, km, hp] <;> rfl); (first | refine sk_id ?_ | refine cs_t ?_ | refine cs_f ?_ | refine gs_t rfl ?_ | refine gs_f rfl ?_))
          | ((first | (apply sk_c; rfl; rfl)); (simp only [go_sem, Nat.reduceLT, Nat.reduceLeDiff, Nat.reduceEqDiff, Nat.reduceAdd, Nat.reduceSub, Nat.reduceMul, reduceIte, reduceCtorEq, km, hp] <;> rfl); (first
              | (refine (f17_tr data [239, 187, 191] _).mono ?_; rintro _ τ2 ⟨rfl, hτ2⟩; rw [hτ2, hp])
              | (refine (hA _).mono ?_; rintro _ τ2 ⟨rfl, hτ2⟩; rw [hτ2, prescanAV])); refine sk_id ?_))
        exact sk_ret ⟨_, (by first | (simp only [aRet, Tryd.results8, aResults, aResult, go_sem, Nat.reduceLT, Nat.reduceLeDiff, Nat.reduceEqDiff, Nat.reduceAdd, Nat.reduceSub, Nat.reduceMul, reduceIte, reduceCtorEq] <;> rfl) | fail), by (unfold chosen; rw [hp]; rfl), by rfl⟩
      | some nm =>
        have s18 := fun σ => f18_tr nm (hto nm rfl).1 (hto nm rfl).2 σ
        by_cases hl : labelOf ((Am.tr B5 nm).map low) = 0
        · have e1 : decide (labelOf ((Am.tr B5 nm).map low) ≠ 0) = false := decide_eq_false (by omega)
          repeat (first
            | refine sk_seq ?_
            | refine sk_region ?_
            | refine sk_ops_nil ?_
            | refine sk_block ?_
            | refine sk_blk ?_
            | refine sk_skip ?_
            | refine sk_exit rfl ?_
            | ((first | (apply sk_r; rfl; rfl) | (apply sk_w; rfl; rfl) | (apply sk_i; rfl) | (apply sk_g; rfl; rfl)); (simp only [go_sem, Nat.reduceLT, Nat.reduceLeDiff, Nat.reduceEqDiff, Nat.reduceAdd, Nat.reduceSub, Nat.reduceMul, reduceIte, reduceCtorEq, km, hp] <;> rfl); (first | refine sk_id ?_ | refine cs_t ?_ | refine cs_f ?_ | refine gs_t rfl ?_ | refine gs_f rfl ?_))
            | ((first | (apply sk_c; rfl; rfl)); (simp only [go_sem, Nat.reduceLT, Nat.reduceLeDiff, Nat.reduceEqDiff, Nat.reduceAdd, Nat.reduceSub, Nat.reduceMul, reduceIte, reduceCtorEq, km, hp] <;> rfl); (first
                | (refine (f17_tr data [239, 187, 191] _).mono ?_; rintro _ τ2 ⟨rfl, hτ2⟩; rw [hτ2, hp])
                | (refine (hA _).mono ?_; rintro _ τ2 ⟨rfl, hτ2⟩; rw [hτ2, prescanAV])
                | (refine (s18 _).mono ?_; rintro _ τ2 ⟨rfl, hτ2⟩; rw [hτ2, e1])); refine sk_id ?_))
          exact sk_ret ⟨_, (by first | (simp only [aRet, Tryd.results8, aResults, aResult, go_sem, Nat.reduceLT, Nat.reduceLeDiff, Nat.reduceEqDiff, Nat.reduceAdd, Nat.reduceSub, Nat.reduceMul, reduceIte, reduceCtorEq] <;> rfl) | fail), by (rw [chosen_bad hp rfl hl]; rfl), by rfl⟩
        · have e1 : decide (labelOf ((Am.tr B5 nm).map low) ≠ 0) = true := decide_eq_true (by omega)
          repeat (first
            | refine sk_seq ?_
            | refine sk_region ?_
            | refine sk_ops_nil ?_
            | refine sk_block ?_
            | refine sk_blk ?_
            | refine sk_skip ?_
            | refine sk_exit rfl ?_
            | ((first | (apply sk_r; rfl; rfl) | (apply sk_w; rfl; rfl) | (apply sk_i; rfl) | (apply sk_g; rfl; rfl)); (simp only [go_sem, Nat.reduceLT, Nat.reduceLeDiff, Nat.reduceEqDiff, Nat.reduceAdd, Nat.reduceSub, Nat.reduceMul, reduceIte, reduceCtorEq, km, hp] <;> rfl); (first | refine sk_id ?_ | refine cs_t ?_ | refine cs_f ?_ | refine gs_t rfl ?_ | refine gs_f rfl ?_))
            | ((first | (apply sk_c; rfl; rfl)); (simp only [go_sem, Nat.reduceLT, Nat.reduceLeDiff, Nat.reduceEqDiff, Nat.reduceAdd, Nat.reduceSub, Nat.reduceMul, reduceIte, reduceCtorEq, km, hp] <;> rfl); (first
                | (refine (f17_tr data [239, 187, 191] _).mono ?_; rintro _ τ2 ⟨rfl, hτ2⟩; rw [hτ2, hp])
                | (refine (hA _).mono ?_; rintro _ τ2 ⟨rfl, hτ2⟩; rw [hτ2, prescanAV])
                | (refine (s18 _).mono ?_; rintro _ τ2 ⟨rfl, hτ2⟩; rw [hτ2, e1])); refine sk_id ?_))
          exact sk_ret ⟨_, (by first | (simp only [aRet, Tryd.results8, aResults, aResult, go_sem, Nat.reduceLT, Nat.reduceLeDiff, Nat.reduceEqDiff, Nat.reduceAdd, Nat.reduceSub, Nat.reduceMul, reduceIte, reduceCtorEq] <;> rfl) | fail), by (rw [chosen_ok hp rfl hl]; rfl), by rfl⟩
    · have e0 : beqL tr [] = false := by rw [beqL_eq]; exact decide_eq_false htr
      have s18 := fun σ => f18_tr tr ht htn σ
      by_cases hl : labelOf ((Am.tr B5 tr).map low) = 0
      · have e1 : decide (labelOf ((Am.tr B5 tr).map low) ≠ 0) = false := decide_eq_false (by omega)
        repeat (first
          | refine sk_seq ?_
          | refine sk_region ?_
          | refine sk_ops_nil ?_
          | refine sk_block ?_
          | refine sk_blk ?_
          | refine sk_skip ?_
          | refine sk_exit rfl ?_
          | ((first | (apply sk_r; rfl; rfl) | (apply sk_w; rfl; rfl) | (apply sk_i; rfl) | (apply sk_g; rfl; rfl)); (simp only [go_sem, Nat.reduceLT, Nat.reduceLeDiff, Nat.reduceEqDiff, Nat.reduceAdd, Nat.reduceSub, Nat.reduceMul, reduceIte, reduceCtorEq, km, hp, bytes_nil, e0] <;> rfl); (first | refine sk_id ?_ | refine cs_t ?_ | refine cs_f ?_ | refine gs_t rfl ?_ | refine gs_f rfl ?_))
          | ((first | (apply sk_c; rfl; rfl)); (simp only [go_sem, Nat.reduceLT, Nat.reduceLeDiff, Nat.reduceEqDiff, Nat.reduceAdd, Nat.reduceSub, Nat.reduceMul, reduceIte, reduceCtorEq, km, hp, bytes_nil, e0] <;> rfl); (first
              | (refine (f17_tr data [239, 187, 191] _).mono ?_; rintro _ τ2 ⟨rfl, hτ2⟩; rw [hτ2, hp])
              | (refine (s18 _).mono ?_; rintro _ τ2 ⟨rfl, hτ2⟩; rw [hτ2, e1])); refine sk_id ?_))
        exact sk_ret ⟨_, (by first | (simp only [aRet, Tryd.results8, aResults, aResult, go_sem, Nat.reduceLT, Nat.reduceLeDiff, Nat.reduceEqDiff, Nat.reduceAdd, Nat.reduceSub, Nat.reduceMul, reduceIte, reduceCtorEq] <;> rfl) | fail), by (rw [chosen_bad hp (if_neg htr) hl]; rfl), by rfl⟩
      · have e1 : decide (labelOf ((Am.tr B5 tr).map low) ≠ 0) = true := decide_eq_true (by omega)
        repeat (first
          | refine sk_seq ?_
          | refine sk_region ?_
          | refine sk_ops_nil ?_
          | refine sk_block ?_
          | refine sk_blk ?_
          | refine sk_skip ?_
          | refine sk_exit rfl ?_
          | ((first | (apply sk_r; rfl; rfl) | (apply sk_w; rfl; rfl) | (apply sk_i; rfl) | (apply sk_g; rfl; rfl)); (simp only [go_sem, Nat.reduceLT, Nat.reduceLeDiff, Nat.reduceEqDiff, Nat.reduceAdd, Nat.reduceSub, Nat.reduceMul, reduceIte, reduceCtorEq, km, hp, bytes_nil, e0] <;> rfl); (first | refine sk_id ?_ | refine cs_t ?_ | refine cs_f ?_ | refine gs_t rfl ?_ | refine gs_f rfl ?_))
          | ((first | (apply sk_c; rfl; rfl)); (simp only [go_sem, Nat.reduceLT, Nat.reduceLeDiff, Nat.reduceEqDiff, Nat.reduceAdd, Nat.reduceSub, Nat.reduceMul, reduceIte, reduceCtorEq, km, hp, bytes_nil, e0] <;> rfl); (first
              | (refine (f17_tr data [239, 187, 191] _).mono ?_; rintro _ τ2 ⟨rfl, hτ2⟩; rw [hτ2, hp])
              | (refine (s18 _).mono ?_; rintro _ τ2 ⟨rfl, hτ2⟩; rw [hτ2, e1])); refine sk_id ?_))
        exact sk_ret ⟨_, (by first | (simp only [aRet, Tryd.results8, aResults, aResult, go_sem, Nat.reduceLT, Nat.reduceLeDiff, Nat.reduceEqDiff, Nat.reduceAdd, Nat.reduceSub, Nat.reduceMul, reduceIte, reduceCtorEq] <;> rfl) | fail), by (rw [chosen_ok hp (if_neg htr) hl]; rfl), by rfl⟩
  · repeat (first
      | refine sk_seq ?_
      | refine sk_region ?_
      | refine sk_ops_nil ?_
      | refine sk_block ?_
      | refine sk_blk ?_
      | refine sk_skip ?_
      | refine sk_exit rfl ?_
      | ((first | (apply sk_r; rfl; rfl) | (apply sk_w; rfl; rfl) | (apply sk_i; rfl) | (apply sk_g; rfl; rfl)); (simp only [go_sem, Nat.reduceLT, Nat.reduceLeDiff, Nat.reduceEqDiff, Nat.reduceAdd, Nat.reduceSub, Nat.reduceMul, reduceIte, reduceCtorEq, km, hp] <;> rfl); (first | refine sk_id ?_ | refine cs_t ?_ | refine cs_f ?_ | refine gs_t rfl ?_ | refine gs_f rfl ?_))
      | ((first | (apply sk_c; rfl; rfl)); (simp only [go_sem, Nat.reduceLT, Nat.reduceLeDiff, Nat.reduceEqDiff, Nat.reduceAdd, Nat.reduceSub, Nat.reduceMul, reduceIte, reduceCtorEq, km, hp] <;> rfl); (first
          | (refine (f17_tr data [239, 187, 191] _).mono ?_; rintro _ τ2 ⟨rfl, hτ2⟩; rw [hτ2, hp])); refine sk_id ?_))
    exact sk_ret ⟨_, (by first | (simp only [aRet, Tryd.results8, aResults, aResult, go_sem, Nat.reduceLT, Nat.reduceLeDiff, Nat.reduceEqDiff, Nat.reduceAdd, Nat.reduceSub, Nat.reduceMul, reduceIte, reduceCtorEq] <;> rfl) | fail), by (unfold chosen; rw [hp]; rfl), by rfl⟩
end Go.Proofs.YtophnlmdcidolaaDoor
