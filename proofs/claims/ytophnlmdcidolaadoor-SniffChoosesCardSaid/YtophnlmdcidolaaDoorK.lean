import Derived.Test.YtophnlmdcidolaaDoorG
import Derived.Test.YtophnlmdcidolaaDoorD
set_option linter.all false
namespace Go.Am
/-- the cells of a set of bytes -/
def setAV (S : List Nat) : List AV := (List.range 256).map fun i => .bool (isIn S i)
theorem setAV_len (S : List Nat) : (setAV S).length = 256 := by rw [setAV, List.length_map, List.length_range]
theorem setAV_get (S : List Nat) {c : Nat} (h : c < 256) : (setAV S)[c]? = some (.bool (isIn S c)) := by
  rw [setAV, List.getElem?_map, List.getElem?_range h]; rfl
theorem setAV_nil : List.replicate 256 (AV.bool false) = setAV [] := by
  refine List.ext_getElem? fun i => ?_
  by_cases h : i < 256
  · rw [setAV_get [] h, List.getElem?_replicate, if_pos h]
    rfl
  · rw [List.getElem?_eq_none (by rw [List.length_replicate]; omega), List.getElem?_eq_none (by rw [setAV_len]; omega)]
theorem lay_one : ∀ (xs : List AV) (i : Nat) (y : AV), i < xs.length → lay xs i [y] = some (xs.set i y)
  | [], i, y, h => by simp at h
  | x :: xs, 0, y, h => by simp [lay, lay_nil]
  | x :: xs, i + 1, y, h => by simp at h; simp [lay, lay_one xs i y h]
theorem isIn_snoc (S : List Nat) (c i : Nat) : isIn (S ++ [c]) i = (isIn S i || decide (i = c)) := by
  rw [Bool.eq_iff_iff, Bool.or_eq_true, isIn_iff, isIn_iff, decide_eq_true_eq]; simp
theorem lay_set (S : List Nat) {c : Nat} (h : c < 256) : lay (setAV S) c [.bool true] = some (setAV (S ++ [c])) := by
  rw [lay_one _ _ _ (by rw [setAV_len]; exact h)]
  congr 1
  refine List.ext_getElem? fun i => ?_
  by_cases hi : i < 256
  · rw [setAV_get _ hi, isIn_snoc, List.getElem?_set]
    split
    · rename_i e; subst e; simp [setAV_len, h]
    · rename_i e; rw [setAV_get _ hi]; simp [Ne.symm e]
  · rw [List.getElem?_eq_none (by rw [List.length_set, setAV_len]; omega), List.getElem?_eq_none (by rw [setAV_len]; omega)]
theorem lay_full : ∀ (xs ys : List AV), xs.length = ys.length → lay xs 0 ys = some ys
  | [], [], _ => rfl
  | x :: xs, y :: ys, h => by simp [lay, lay_full xs ys (by simpa using h)]
  | [], _ :: _, h => by simp at h
  | _ :: _, [], h => by simp at h
theorem getN_full : ∀ (xs : List AV), getN xs.length xs = some xs
  | [] => rfl
  | x :: xs => by simp [getN, getN_full xs]
theorem setAV_sub (S : List Nat) : sub (setAV S) 0 256 = some (setAV S) := by
  unfold sub
  have := getN_full (setAV S)
  rw [setAV_len] at this
  exact this
theorem oneAll_bool : ∀ (l : List Nat) (f : Nat → Bool), oneAll (l.map fun i => .bool (f i)) = true
  | [], _ => rfl
  | _ :: l, f => by simp only [List.map, oneAll]; exact oneAll_bool l f
theorem setAV_one (S : List Nat) : oneAll (setAV S) = true := oneAll_bool _ _
theorem setAV_lay (S T : List Nat) : lay (setAV S) 0 (setAV T) = some (setAV T) := lay_full _ _ (by rw [setAV_len, setAV_len])
end Go.Am
namespace Go.Proofs.YtophnlmdcidolaaDoor
open Go Go.Am
set_option maxHeartbeats 8000000
set_option maxRecDepth 100000

theorem f78_tr (b c : Nat) (S : List Nat) (hc : c < 256) (σ : AHeap) (ro : Bool) (fz : Nat) (ps : List Nat) (hb : σ.m.get b = some (.cells (setAV S) ro fz ps)) :
    Tr Tryd.prog 78 [.ptr b 0, .int .u8 c] σ fun v σ' => v = .bool (isIn S c) ∧ σ' = σ := by
  refine sk_body (m := 10) Tryd.func78 rfl (by decide) rfl ?_
  have e1 : (0 : Int) ≤ (c : Int) := by omega
  have e2 : (c : Int) < ((256 : Nat) : Int) := by omega
  have e3 := setAV_get S hc
  repeat (first
    | refine sk_seq ?_
    | refine sk_region ?_
    | refine sk_ops_nil ?_
    | refine sk_block ?_
    | refine sk_blk ?_
    | refine sk_skip ?_
    | refine sk_exit rfl ?_
    | ((first | (apply sk_r; rfl; rfl) | (apply sk_w; rfl; rfl) | (apply sk_i; rfl) | (apply sk_g; rfl; rfl)); (simp only [go_sem, Nat.reduceLT, Nat.reduceLeDiff, Nat.reduceEqDiff, Nat.reduceAdd, Nat.reduceSub, Nat.reduceMul, reduceIte, reduceCtorEq, hb, e1, e2, e3, and_self] <;> rfl); (first | refine sk_id ?_ | refine cs_t ?_ | refine cs_f ?_ | refine gs_t rfl ?_ | refine gs_f rfl ?_)))
  exact sk_ret ⟨_, (by first | (simp only [aRet, Tryd.results78, aResults, aResult, go_sem, Nat.reduceLT, Nat.reduceLeDiff, Nat.reduceEqDiff, Nat.reduceAdd, Nat.reduceSub, Nat.reduceMul, reduceIte, reduceCtorEq] <;> rfl) | fail), rfl, rfl⟩

theorem f57_tr (l : List Nat) (hl : ∀ c ∈ l, c < 128) (hn : l.length ≤ 1000000) (σ : AHeap) :
    Tr Tryd.prog 57 [.str l] σ fun v σ' => v = .tuple [.agg (setAV l), .bool true] ∧ σ' = σ := by
  refine Tr.wf fun hW => Tr.pure ?_
  refine sk_body (m := 21) Tryd.func57 rfl (by decide) rfl ?_
  repeat (first
    | refine sk_seq ?_
    | refine sk_region ?_
    | refine sk_ops_nil ?_
    | refine sk_block ?_
    | refine sk_blk ?_
    | refine sk_skip ?_
    | refine sk_exit rfl ?_
    | ((first | (apply sk_r; rfl; rfl) | (apply sk_w; rfl; rfl) | (apply sk_i; rfl) | (apply sk_g; rfl; rfl)); (simp only [go_sem, Nat.reduceLT, Nat.reduceLeDiff, Nat.reduceEqDiff, Nat.reduceAdd, Nat.reduceSub, Nat.reduceMul, reduceIte, reduceCtorEq, zo93, setAV_nil] <;> rfl); (first | refine sk_id ?_ | refine cs_t ?_ | refine cs_f ?_ | refine gs_t rfl ?_ | refine gs_f rfl ?_)))
  refine sk_loop (fun m fr σ' => ∃ i, m = l.length - i ∧ i ≤ l.length ∧ fget fr 0 = .str l ∧ fget fr 2 = .ptr σ.next 0 ∧ fget fr 4 = .int .i64 (i : Nat) ∧ σ' = σ.push (.cells (setAV (l.take i)) false 0 [])) _ ⟨0, rfl, by omega, (by first | (simp only [go_sem, Nat.reduceLT, Nat.reduceLeDiff, Nat.reduceEqDiff, Nat.reduceAdd, Nat.reduceSub, Nat.reduceMul, reduceIte, reduceCtorEq] <;> rfl) | fail), (by first | (simp only [go_sem, Nat.reduceLT, Nat.reduceLeDiff, Nat.reduceEqDiff, Nat.reduceAdd, Nat.reduceSub, Nat.reduceMul, reduceIte, reduceCtorEq] <;> rfl) | fail), (by first | (simp only [go_sem, Nat.reduceLT, Nat.reduceLeDiff, Nat.reduceEqDiff, Nat.reduceAdd, Nat.reduceSub, Nat.reduceMul, reduceIte, reduceCtorEq] <;> rfl) | fail), by rfl⟩ ?_
  rintro _ fr _ ⟨i, rfl, hi, h0, h2, h4, rfl⟩
  by_cases hil : i < l.length
  · obtain ⟨c, hc⟩ := at_some hil
    have hc8 := hl c (at_mem hc)
    have e1 : decide ((i : Int) < (l.length : Int)) = true := by simp; omega
    have e2 : (0 : Int) ≤ (i : Int) := by omega
    have e4 : IntKind.wrap .i64 ((i : Int) + 1) = ((i + 1 : Nat) : Int) := wrap_i64 (by omega) (by omega)
    have e5 : decide ((c : Int) ≥ 128) = false := by simp; omega
    have e6 : (0 : Int) ≤ (c : Int) := by omega
    have e7 : (c : Int) < ((256 : Nat) : Int) := by omega
    have e8 := lay_set (l.take i) (c := c) (by omega)
    repeat (first
      | refine sk_seq ?_
      | refine sk_region ?_
      | refine sk_ops_nil ?_
      | refine sk_block ?_
      | refine sk_blk ?_
      | refine sk_skip ?_
      | refine sk_exit rfl ?_
      | ((first | (apply sk_r; rfl; rfl) | (apply sk_w; rfl; rfl) | (apply sk_i; rfl) | (apply sk_g; rfl; rfl)); (simp only [go_sem, Nat.reduceLT, Nat.reduceLeDiff, Nat.reduceEqDiff, Nat.reduceAdd, Nat.reduceSub, Nat.reduceMul, reduceIte, reduceCtorEq, h0, h2, h4, e1, e2, e4, e5, e6, e7, e8, hc, and_self] <;> rfl); (first | refine sk_id ?_ | refine cs_t ?_ | refine cs_f ?_ | refine gs_t rfl ?_ | refine gs_f rfl ?_)))
    exact sk_stop ⟨l.length - (i + 1), by omega, i + 1, rfl, by omega, (by first | (simp only [go_sem, Nat.reduceLT, Nat.reduceLeDiff, Nat.reduceEqDiff, Nat.reduceAdd, Nat.reduceSub, Nat.reduceMul, reduceIte, reduceCtorEq, h0] <;> rfl) | fail), (by first | (simp only [go_sem, Nat.reduceLT, Nat.reduceLeDiff, Nat.reduceEqDiff, Nat.reduceAdd, Nat.reduceSub, Nat.reduceMul, reduceIte, reduceCtorEq, h2] <;> rfl) | fail), (by first | (simp only [go_sem, Nat.reduceLT, Nat.reduceLeDiff, Nat.reduceEqDiff, Nat.reduceAdd, Nat.reduceSub, Nat.reduceMul, reduceIte, reduceCtorEq] <;> rfl) | fail), by rw [List.take_succ, hc]; rfl⟩
  · have e1 : decide ((i : Int) < (l.length : Int)) = false := by simp; omega
    rw [List.take_of_length_le (by omega)]
    repeat (first
      | refine sk_seq ?_
      | refine sk_region ?_
      | refine sk_ops_nil ?_
      | refine sk_block ?_
      | refine sk_blk ?_
      | refine sk_skip ?_
      | refine sk_exit rfl ?_
      | ((first | (apply sk_r; rfl; rfl) | (apply sk_w; rfl; rfl) | (apply sk_i; rfl) | (apply sk_g; rfl; rfl)); (simp only [go_sem, Nat.reduceLT, Nat.reduceLeDiff, Nat.reduceEqDiff, Nat.reduceAdd, Nat.reduceSub, Nat.reduceMul, reduceIte, reduceCtorEq, h0, h2, h4, e1, setAV_sub, setAV_len, setAV_one, setAV_lay] <;> rfl); (first | refine sk_id ?_ | refine cs_t ?_ | refine cs_f ?_ | refine gs_t rfl ?_ | refine gs_f rfl ?_)))
    exact sk_ret ⟨_, (by first | (simp only [aRet, Tryd.results57, aResults, aResult, go_sem, Nat.reduceLT, Nat.reduceLeDiff, Nat.reduceEqDiff, Nat.reduceAdd, Nat.reduceSub, Nat.reduceMul, reduceIte, reduceCtorEq, h2, setAV_sub] <;> rfl) | fail), rfl, fun b x h => by rw [get_push, if_neg (by have := wf_lt hW h; omega)]; exact h, rfl, rfl⟩
end Go.Proofs.YtophnlmdcidolaaDoor
namespace Go.Am
/-- without bytes of S at the end -/
def rt (S l : List Nat) : List Nat := (l.reverse.dropWhile (isIn S)).reverse
/-- without bytes of S at both ends -/
def tr (S l : List Nat) : List Nat := (rt S l).dropWhile (isIn S)
theorem last_form {t : List Nat} {n c : Nat} (h : t.length = n + 1) (hc : t[n]? = some c) : t = t.take n ++ [c] := by
  have h1 : t.take (n + 1) = t := List.take_of_length_le (by omega)
  rw [List.take_succ, hc] at h1
  exact h1.symm
theorem rt_step {S t : List Nat} {n c : Nat} (h : t.length = n + 1) (hc : t[n]? = some c) (hs : isIn S c = true) : rt S (t.take n) = rt S t := by
  conv => rhs; rw [last_form h hc]
  unfold rt
  rw [List.reverse_append]
  simp [hs]
theorem rt_stop {S t : List Nat} {n c : Nat} (h : t.length = n + 1) (hc : t[n]? = some c) (hs : isIn S c = false) : rt S t = t := by
  conv => lhs; rw [last_form h hc]
  conv => rhs; rw [last_form h hc]
  unfold rt
  rw [List.reverse_append]
  simp [hs]
theorem rt_mem {S l : List Nat} {c : Nat} (h : c ∈ rt S l) : c ∈ l := by
  unfold rt at h
  rw [List.mem_reverse] at h
  exact List.mem_reverse.1 ((List.dropWhile_sublist _).subset h)
theorem rt_len (S l : List Nat) : (rt S l).length ≤ l.length := by
  unfold rt
  rw [List.length_reverse]
  have := (List.dropWhile_sublist (isIn S) (l := l.reverse)).length_le
  rw [List.length_reverse] at this
  exact this
theorem tr_mem {S l : List Nat} {c : Nat} (h : c ∈ tr S l) : c ∈ l := rt_mem ((List.dropWhile_sublist _).subset h)
theorem tr_len (S l : List Nat) : (tr S l).length ≤ l.length := Nat.le_trans (List.dropWhile_sublist (isIn S) (l := rt S l)).length_le (rt_len S l)
theorem dw_step {S t : List Nat} {c : Nat} (hc : t[0]? = some c) (hs : isIn S c = true) : (t.drop 1).dropWhile (isIn S) = t.dropWhile (isIn S) := by
  cases t with
  | nil => simp at hc
  | cons x t => simp at hc; subst hc; simp [hs]
theorem dw_stop {S t : List Nat} {c : Nat} (hc : t[0]? = some c) (hs : isIn S c = false) : t.dropWhile (isIn S) = t := by
  cases t with
  | nil => simp at hc
  | cons x t => simp at hc; subst hc; simp [hs]
end Go.Am
namespace Go.Proofs.YtophnlmdcidolaaDoor
open Go Go.Am
set_option maxHeartbeats 8000000
set_option maxRecDepth 100000

theorem f59_tr (l S : List Nat) (b : Nat) (hd : ∀ c ∈ l, c < 256) (hn : l.length ≤ 140737488355327) (σ : AHeap) (ro : Bool) (fz : Nat) (ps : List Nat) (hb : σ.m.get b = some (.cells (setAV S) ro fz ps)) :
    Tr Tryd.prog 59 [.str l, .ptr b 0] σ fun v σ' => v = .str (rt S l) ∧ σ' = σ := by
  refine sk_body (m := 22) Tryd.func59 rfl (by decide) rfl ?_
  repeat (first
    | refine sk_seq ?_
    | refine sk_region ?_
    | refine sk_ops_nil ?_
    | refine sk_block ?_
    | refine sk_blk ?_
    | refine sk_skip ?_
    | refine sk_exit rfl ?_
    | ((first | (apply sk_r; rfl; rfl) | (apply sk_w; rfl; rfl) | (apply sk_i; rfl) | (apply sk_g; rfl; rfl)); (simp only [go_sem, Nat.reduceLT, Nat.reduceLeDiff, Nat.reduceEqDiff, Nat.reduceAdd, Nat.reduceSub, Nat.reduceMul, reduceIte, reduceCtorEq] <;> rfl); (first | refine sk_id ?_ | refine cs_t ?_ | refine cs_f ?_ | refine gs_t rfl ?_ | refine gs_f rfl ?_)))
  refine sk_loop (fun m fr σ' => ∃ t, m = t.length ∧ t.length ≤ 140737488355327 ∧ (∀ c ∈ t, c < 256) ∧ rt S t = rt S l ∧ fget fr 0 = .str t ∧ fget fr 1 = .ptr b 0 ∧ σ' = σ) _ ⟨l, rfl, hn, hd, rfl, (by first | (simp only [go_sem, Nat.reduceLT, Nat.reduceLeDiff, Nat.reduceEqDiff, Nat.reduceAdd, Nat.reduceSub, Nat.reduceMul, reduceIte, reduceCtorEq] <;> rfl) | fail), (by first | (simp only [go_sem, Nat.reduceLT, Nat.reduceLeDiff, Nat.reduceEqDiff, Nat.reduceAdd, Nat.reduceSub, Nat.reduceMul, reduceIte, reduceCtorEq] <;> rfl) | fail), rfl⟩ ?_
  rintro _ fr τ ⟨t, rfl, hl, ht, hr, h0, h1, hτ⟩
  rw [hτ]
  rcases Nat.eq_zero_or_pos t.length with e0 | e0
  · have e1 : decide ((t.length : Int) > 0) = false := decide_eq_false (by omega)
    repeat (first
      | refine sk_seq ?_
      | refine sk_region ?_
      | refine sk_ops_nil ?_
      | refine sk_block ?_
      | refine sk_blk ?_
      | refine sk_skip ?_
      | refine sk_exit rfl ?_
      | ((first | (apply sk_r; rfl; rfl) | (apply sk_w; rfl; rfl) | (apply sk_i; rfl) | (apply sk_g; rfl; rfl)); (simp only [go_sem, Nat.reduceLT, Nat.reduceLeDiff, Nat.reduceEqDiff, Nat.reduceAdd, Nat.reduceSub, Nat.reduceMul, reduceIte, reduceCtorEq, h0, h1, e1] <;> rfl); (first | refine sk_id ?_ | refine cs_t ?_ | refine cs_f ?_ | refine gs_t rfl ?_ | refine gs_f rfl ?_)))
    have e2 : t = [] := List.eq_nil_of_length_eq_zero e0
    subst e2
    exact sk_ret ⟨_, (by first | (simp only [aRet, Tryd.results59, aResults, aResult, go_sem, Nat.reduceLT, Nat.reduceLeDiff, Nat.reduceEqDiff, Nat.reduceAdd, Nat.reduceSub, Nat.reduceMul, reduceIte, reduceCtorEq] <;> rfl) | fail), by rw [← hr]; rfl, rfl⟩
  · obtain ⟨n, en⟩ : ∃ n, t.length = n + 1 := ⟨t.length - 1, by omega⟩
    obtain ⟨c, hc⟩ := at_some (d := t) (k := n) (by omega)
    have hc8 := ht c (at_mem hc)
    have e1 : decide ((t.length : Int) > 0) = true := decide_eq_true (by omega)
    have e2 : IntKind.wrap .i64 ((t.length : Int) - 1) = ((n : Nat) : Int) := by rw [wrap_i64 (by omega) (by omega)]; omega
    have e3 : (0 : Int) ≤ (n : Int) := by omega
    have e4 : (n : Int) ≤ (t.length : Int) := by omega
    cases hs : isIn S c
    · repeat (first
        | refine sk_seq ?_
        | refine sk_region ?_
        | refine sk_ops_nil ?_
        | refine sk_block ?_
        | refine sk_blk ?_
        | refine sk_skip ?_
        | refine sk_exit rfl ?_
        | ((first | (apply sk_r; rfl; rfl) | (apply sk_w; rfl; rfl) | (apply sk_i; rfl) | (apply sk_g; rfl; rfl)); (simp only [go_sem, Nat.reduceLT, Nat.reduceLeDiff, Nat.reduceEqDiff, Nat.reduceAdd, Nat.reduceSub, Nat.reduceMul, reduceIte, reduceCtorEq, h0, h1, e1, e2, e3, hc, hs] <;> rfl); (first | refine sk_id ?_ | refine cs_t ?_ | refine cs_f ?_ | refine gs_t rfl ?_ | refine gs_f rfl ?_))
        | ((first | (apply sk_c; rfl; rfl)); (simp only [go_sem, Nat.reduceLT, Nat.reduceLeDiff, Nat.reduceEqDiff, Nat.reduceAdd, Nat.reduceSub, Nat.reduceMul, reduceIte, reduceCtorEq, h0, h1, e1, e2, e3, hc, hs] <;> rfl); (first
            | (refine (f78_tr b c S hc8 _ ro fz ps hb).mono ?_; rintro _ τ2 ⟨rfl, hτ2⟩; rw [hτ2, hs])); refine sk_id ?_))
      exact sk_ret ⟨_, (by first | (simp only [aRet, Tryd.results59, aResults, aResult, go_sem, Nat.reduceLT, Nat.reduceLeDiff, Nat.reduceEqDiff, Nat.reduceAdd, Nat.reduceSub, Nat.reduceMul, reduceIte, reduceCtorEq] <;> rfl) | fail), by rw [← hr, rt_stop en hc hs], rfl⟩
    · repeat (first
        | refine sk_seq ?_
        | refine sk_region ?_
        | refine sk_ops_nil ?_
        | refine sk_block ?_
        | refine sk_blk ?_
        | refine sk_skip ?_
        | refine sk_exit rfl ?_
        | ((first | (apply sk_r; rfl; rfl) | (apply sk_w; rfl; rfl) | (apply sk_i; rfl) | (apply sk_g; rfl; rfl)); (simp only [go_sem, Nat.reduceLT, Nat.reduceLeDiff, Nat.reduceEqDiff, Nat.reduceAdd, Nat.reduceSub, Nat.reduceMul, reduceIte, reduceCtorEq, h0, h1, e1, e2, e3, e4, hc, hs, and_self] <;> rfl); (first | refine sk_id ?_ | refine cs_t ?_ | refine cs_f ?_ | refine gs_t rfl ?_ | refine gs_f rfl ?_))
        | ((first | (apply sk_c; rfl; rfl)); (simp only [go_sem, Nat.reduceLT, Nat.reduceLeDiff, Nat.reduceEqDiff, Nat.reduceAdd, Nat.reduceSub, Nat.reduceMul, reduceIte, reduceCtorEq, h0, h1, e1, e2, e3, e4, hc, hs, and_self] <;> rfl); (first
            | (refine (f78_tr b c S hc8 _ ro fz ps hb).mono ?_; rintro _ τ2 ⟨rfl, hτ2⟩; rw [hτ2, hs])); refine sk_id ?_))
      exact sk_stop ⟨n, by omega, t.take n, by rw [List.length_take]; omega, by rw [List.length_take]; omega, fun c h => ht c (List.mem_of_mem_take h), by rw [rt_step en hc hs, hr], (by first | (simp only [go_sem, Nat.reduceLT, Nat.reduceLeDiff, Nat.reduceEqDiff, Nat.reduceAdd, Nat.reduceSub, Nat.reduceMul, reduceIte, reduceCtorEq] <;> rfl) | fail), (by first | (simp only [go_sem, Nat.reduceLT, Nat.reduceLeDiff, Nat.reduceEqDiff, Nat.reduceAdd, Nat.reduceSub, Nat.reduceMul, reduceIte, reduceCtorEq, h1] <;> rfl) | fail), rfl⟩

theorem f58_tr (l S : List Nat) (b : Nat) (hd : ∀ c ∈ l, c < 256) (hn : l.length ≤ 140737488355327) (σ : AHeap) (ro : Bool) (fz : Nat) (ps : List Nat) (hb : σ.m.get b = some (.cells (setAV S) ro fz ps)) :
    Tr Tryd.prog 58 [.str l, .ptr b 0] σ fun v σ' => v = .str (l.dropWhile (isIn S)) ∧ σ' = σ := by
  refine sk_body (m := 16) Tryd.func58 rfl (by decide) rfl ?_
  repeat (first
    | refine sk_seq ?_
    | refine sk_region ?_
    | refine sk_ops_nil ?_
    | refine sk_block ?_
    | refine sk_blk ?_
    | refine sk_skip ?_
    | refine sk_exit rfl ?_
    | ((first | (apply sk_r; rfl; rfl) | (apply sk_w; rfl; rfl) | (apply sk_i; rfl) | (apply sk_g; rfl; rfl)); (simp only [go_sem, Nat.reduceLT, Nat.reduceLeDiff, Nat.reduceEqDiff, Nat.reduceAdd, Nat.reduceSub, Nat.reduceMul, reduceIte, reduceCtorEq] <;> rfl); (first | refine sk_id ?_ | refine cs_t ?_ | refine cs_f ?_ | refine gs_t rfl ?_ | refine gs_f rfl ?_)))
  refine sk_loop (fun m fr σ' => ∃ t, m = t.length ∧ t.length ≤ 140737488355327 ∧ (∀ c ∈ t, c < 256) ∧ t.dropWhile (isIn S) = l.dropWhile (isIn S) ∧ fget fr 0 = .str t ∧ fget fr 1 = .ptr b 0 ∧ σ' = σ) _ ⟨l, rfl, hn, hd, rfl, (by first | (simp only [go_sem, Nat.reduceLT, Nat.reduceLeDiff, Nat.reduceEqDiff, Nat.reduceAdd, Nat.reduceSub, Nat.reduceMul, reduceIte, reduceCtorEq] <;> rfl) | fail), (by first | (simp only [go_sem, Nat.reduceLT, Nat.reduceLeDiff, Nat.reduceEqDiff, Nat.reduceAdd, Nat.reduceSub, Nat.reduceMul, reduceIte, reduceCtorEq] <;> rfl) | fail), rfl⟩ ?_
  rintro _ fr τ ⟨t, rfl, hl, ht, hr, h0, h1, hτ⟩
  rw [hτ]
  rcases Nat.eq_zero_or_pos t.length with e0 | e0
  · have e1 : decide ((t.length : Int) > 0) = false := decide_eq_false (by omega)
    repeat (first
      | refine sk_seq ?_
      | refine sk_region ?_
      | refine sk_ops_nil ?_
      | refine sk_block ?_
      | refine sk_blk ?_
      | refine sk_skip ?_
      | refine sk_exit rfl ?_
      | ((first | (apply sk_r; rfl; rfl) | (apply sk_w; rfl; rfl) | (apply sk_i; rfl) | (apply sk_g; rfl; rfl)); (simp only [go_sem, Nat.reduceLT, Nat.reduceLeDiff, Nat.reduceEqDiff, Nat.reduceAdd, Nat.reduceSub, Nat.reduceMul, reduceIte, reduceCtorEq, h0, h1, e1] <;> rfl); (first | refine sk_id ?_ | refine cs_t ?_ | refine cs_f ?_ | refine gs_t rfl ?_ | refine gs_f rfl ?_)))
    have e2 : t = [] := List.eq_nil_of_length_eq_zero e0
    subst e2
    exact sk_ret ⟨_, (by first | (simp only [aRet, Tryd.results58, aResults, aResult, go_sem, Nat.reduceLT, Nat.reduceLeDiff, Nat.reduceEqDiff, Nat.reduceAdd, Nat.reduceSub, Nat.reduceMul, reduceIte, reduceCtorEq] <;> rfl) | fail), by rw [← hr]; rfl, rfl⟩
  · obtain ⟨c, hc⟩ := at_some (d := t) (k := 0) (by omega)
    have hc8 := ht c (at_mem hc)
    have e1 : decide ((t.length : Int) > 0) = true := decide_eq_true (by omega)
    have e3 : (0 : Int) ≤ (1 : Int) := by omega
    have e6 : Int.toNat 1 = 1 := rfl
    have e4 : (1 : Int) ≤ (t.length : Int) := by omega
    cases hs : isIn S c
    · repeat (first
        | refine sk_seq ?_
        | refine sk_region ?_
        | refine sk_ops_nil ?_
        | refine sk_block ?_
        | refine sk_blk ?_
        | refine sk_skip ?_
        | refine sk_exit rfl ?_
        | ((first | (apply sk_r; rfl; rfl) | (apply sk_w; rfl; rfl) | (apply sk_i; rfl) | (apply sk_g; rfl; rfl)); (simp only [go_sem, Nat.reduceLT, Nat.reduceLeDiff, Nat.reduceEqDiff, Nat.reduceAdd, Nat.reduceSub, Nat.reduceMul, reduceIte, reduceCtorEq, h0, h1, e1, e3, hc, hs, Int.toNat_zero, Int.le_refl] <;> rfl); (first | refine sk_id ?_ | refine cs_t ?_ | refine cs_f ?_ | refine gs_t rfl ?_ | refine gs_f rfl ?_))
        | ((first | (apply sk_c; rfl; rfl)); (simp only [go_sem, Nat.reduceLT, Nat.reduceLeDiff, Nat.reduceEqDiff, Nat.reduceAdd, Nat.reduceSub, Nat.reduceMul, reduceIte, reduceCtorEq, h0, h1, e1, e3, hc, hs, Int.toNat_zero, Int.le_refl] <;> rfl); (first
            | (refine (f78_tr b c S hc8 _ ro fz ps hb).mono ?_; rintro _ τ2 ⟨rfl, hτ2⟩; rw [hτ2, hs])); refine sk_id ?_))
      exact sk_ret ⟨_, (by first | (simp only [aRet, Tryd.results58, aResults, aResult, go_sem, Nat.reduceLT, Nat.reduceLeDiff, Nat.reduceEqDiff, Nat.reduceAdd, Nat.reduceSub, Nat.reduceMul, reduceIte, reduceCtorEq] <;> rfl) | fail), by rw [← hr, dw_stop hc hs], rfl⟩
    · repeat (first
        | refine sk_seq ?_
        | refine sk_region ?_
        | refine sk_ops_nil ?_
        | refine sk_block ?_
        | refine sk_blk ?_
        | refine sk_skip ?_
        | refine sk_exit rfl ?_
        | ((first | (apply sk_r; rfl; rfl) | (apply sk_w; rfl; rfl) | (apply sk_i; rfl) | (apply sk_g; rfl; rfl)); (simp only [go_sem, Nat.reduceLT, Nat.reduceLeDiff, Nat.reduceEqDiff, Nat.reduceAdd, Nat.reduceSub, Nat.reduceMul, reduceIte, reduceCtorEq, h0, h1, e1, e3, e4, hc, hs, and_self, Int.toNat_zero, Int.le_refl] <;> rfl); (first | refine sk_id ?_ | refine cs_t ?_ | refine cs_f ?_ | refine gs_t rfl ?_ | refine gs_f rfl ?_))
        | ((first | (apply sk_c; rfl; rfl)); (simp only [go_sem, Nat.reduceLT, Nat.reduceLeDiff, Nat.reduceEqDiff, Nat.reduceAdd, Nat.reduceSub, Nat.reduceMul, reduceIte, reduceCtorEq, h0, h1, e1, e3, e4, hc, hs, and_self, Int.toNat_zero, Int.le_refl] <;> rfl); (first
            | (refine (f78_tr b c S hc8 _ ro fz ps hb).mono ?_; rintro _ τ2 ⟨rfl, hτ2⟩; rw [hτ2, hs])); refine sk_id ?_))
      exact sk_stop ⟨t.length - 1, by omega, t.drop 1, by rw [List.length_drop], by rw [List.length_drop]; omega, fun c h => ht c (List.mem_of_mem_drop h), by rw [dw_step hc hs, hr], (by first | (simp only [go_sem, Nat.reduceLT, Nat.reduceLeDiff, Nat.reduceEqDiff, Nat.reduceAdd, Nat.reduceSub, Nat.reduceMul, reduceIte, reduceCtorEq, e6, List.take_length] <;> rfl) | fail), (by first | (simp only [go_sem, Nat.reduceLT, Nat.reduceLeDiff, Nat.reduceEqDiff, Nat.reduceAdd, Nat.reduceSub, Nat.reduceMul, reduceIte, reduceCtorEq, h1] <;> rfl) | fail), rfl⟩
end Go.Proofs.YtophnlmdcidolaaDoor
namespace Go.Am
theorem bytes_nil : bytesOf { data := #[] } = [] := rfl
abbrev B5 : List Nat := [9, 10, 12, 13, 32]
def utfs : List (List Nat) := [[117, 116, 102, 45, 56], [117, 116, 102, 56], [117, 110, 105, 99, 111, 100, 101, 45, 49, 45, 49, 45, 117, 116, 102, 45, 56], [117, 116, 102, 45, 49, 54], [117, 116, 102, 45, 49, 54, 108, 101], [117, 116, 102, 45, 49, 54, 98, 101]]
def wins : List (List Nat) := [[119, 105, 110, 100, 111, 119, 115, 45, 49, 50, 53, 50], [99, 112, 49, 50, 53, 50], [108, 97, 116, 105, 110, 49], [108, 49], [105, 115, 111, 45, 56, 56, 53, 57, 45, 49], [97, 115, 99, 105, 105], [117, 115, 45, 97, 115, 99, 105, 105]]
/-- the number of a name's coding; 0: none of ours -/
def labelOf (m : List Nat) : Nat := if m ∈ utfs then 1 else if m ∈ wins then 2 else 0
def pre (p s : List Nat) : Bool := decide (s.take p.length = p)
end Go.Am
namespace Go.Proofs.YtophnlmdcidolaaDoor
open Go Go.Am
set_option maxHeartbeats 8000000
set_option maxRecDepth 100000

theorem f37_tr (l : List Nat) (hd : ∀ c ∈ l, c < 256) (hn : l.length ≤ 140737488355327) (σ : AHeap) :
    Tr Tryd.prog 37 [.str l, .str [9, 10, 12, 13, 32]] σ fun v σ' => v = .str (tr B5 l) ∧ σ' = σ := by
  refine Tr.wf fun hW => Tr.pure ?_
  refine sk_body (m := 43) Tryd.func37 rfl (by decide) rfl ?_
  by_cases hl : l = []
  · subst hl
    repeat (first
      | refine sk_seq ?_
      | refine sk_region ?_
      | refine sk_ops_nil ?_
      | refine sk_draw_nil ?_
      | refine sk_block ?_
      | refine sk_blk ?_
      | refine sk_skip ?_
      | refine sk_exit rfl ?_
      | refine sk_draw (id := 4) [0, 1, 2, 4, 5, 3, 6, 7] mixed (by kernel_rfl) ?_
      | ((first | (apply sk_r; rfl; rfl) | (apply sk_w; rfl; rfl) | (apply sk_i; rfl) | (apply sk_g; rfl; rfl) | (apply sk_dr; rfl; rfl; rfl) | (apply sk_dg; rfl; rfl; rfl; rfl; rfl) | apply drd_i | (apply sk_dnr (i := 7) (fl := []); rfl; rfl; decide +kernel; rfl; rfl) | (apply sk_dnw (i := 7) (fl := []); rfl; rfl; decide +kernel; rfl; rfl)); (simp only [go_sem, Nat.reduceLT, Nat.reduceLeDiff, Nat.reduceEqDiff, Nat.reduceAdd, Nat.reduceSub, Nat.reduceMul, reduceIte, reduceCtorEq] <;> rfl); (first | refine sk_id ?_ | refine cs_t ?_ | refine cs_f ?_ | refine gs_t rfl ?_ | refine gs_f rfl ?_ | ((repeat (first | exact trivial | ((first | (apply redos_r; rfl; rfl) | (apply redos_g; rfl; rfl; rfl; rfl)); (simp only [go_sem, Nat.reduceLT, Nat.reduceLeDiff, Nat.reduceEqDiff, Nat.reduceAdd, Nat.reduceSub, Nat.reduceMul, reduceIte, reduceCtorEq] <;> rfl)) | (apply redos_s; rfl; rfl; rfl; (simp only [go_sem, Nat.reduceLT, Nat.reduceLeDiff, Nat.reduceEqDiff, Nat.reduceAdd, Nat.reduceSub, Nat.reduceMul, reduceIte, reduceCtorEq] <;> rfl)))); refine sk_id ?_))))
    exact sk_ret ⟨_, (by first | (simp only [aRet, Tryd.results37, aResults, aResult, go_sem, Nat.reduceLT, Nat.reduceLeDiff, Nat.reduceEqDiff, Nat.reduceAdd, Nat.reduceSub, Nat.reduceMul, reduceIte, reduceCtorEq] <;> rfl) | fail), rfl, fun b x h => h, rfl, rfl⟩
  · have e1 : beqL l [] = false := by rw [beqL_eq]; exact decide_eq_false hl
    have hk : ∀ x b y, σ.m.get b = some y → (σ.push x).m.get b = some y := fun x b y h => by rw [get_push, if_neg (by have := wf_lt hW h; omega)]; exact h
    repeat (first
      | refine sk_seq ?_
      | refine sk_region ?_
      | refine sk_ops_nil ?_
      | refine sk_draw_nil ?_
      | refine sk_block ?_
      | refine sk_blk ?_
      | refine sk_skip ?_
      | refine sk_exit rfl ?_
      | refine sk_draw (id := 4) [0, 1, 2, 4, 5, 3, 6, 7] mixed (by kernel_rfl) ?_
      | ((first | (apply sk_r; rfl; rfl) | (apply sk_w; rfl; rfl) | (apply sk_i; rfl) | (apply sk_g; rfl; rfl) | (apply sk_dr; rfl; rfl; rfl) | (apply sk_dg; rfl; rfl; rfl; rfl; rfl) | apply drd_i | (apply sk_dnr (i := 7) (fl := []); rfl; rfl; decide +kernel; rfl; rfl) | (apply sk_dnw (i := 7) (fl := []); rfl; rfl; decide +kernel; rfl; rfl)); (simp only [go_sem, Nat.reduceLT, Nat.reduceLeDiff, Nat.reduceEqDiff, Nat.reduceAdd, Nat.reduceSub, Nat.reduceMul, reduceIte, reduceCtorEq, bytes_nil, e1, zo93, setAV_nil, setAV_len, setAV_one, setAV_lay] <;> rfl); (first | refine sk_id ?_ | refine cs_t ?_ | refine cs_f ?_ | refine gs_t rfl ?_ | refine gs_f rfl ?_ | ((repeat (first | exact trivial | ((first | (apply redos_r; rfl; rfl) | (apply redos_g; rfl; rfl; rfl; rfl)); (simp only [go_sem, Nat.reduceLT, Nat.reduceLeDiff, Nat.reduceEqDiff, Nat.reduceAdd, Nat.reduceSub, Nat.reduceMul, reduceIte, reduceCtorEq, bytes_nil, e1, zo93, setAV_nil, setAV_len, setAV_one, setAV_lay] <;> rfl)) | (apply redos_s; rfl; rfl; rfl; (simp only [go_sem, Nat.reduceLT, Nat.reduceLeDiff, Nat.reduceEqDiff, Nat.reduceAdd, Nat.reduceSub, Nat.reduceMul, reduceIte, reduceCtorEq, bytes_nil, e1, zo93, setAV_nil, setAV_len, setAV_one, setAV_lay] <;> rfl)))); refine sk_id ?_)))
      | ((first | (apply sk_c; rfl; rfl) | (apply sk_dnc (i := 3) (fl := [5, 4]); rfl; rfl; decide +kernel; rfl) | (apply sk_dnc (i := 6) (fl := []); rfl; rfl; decide +kernel; rfl)); (simp only [go_sem, Nat.reduceLT, Nat.reduceLeDiff, Nat.reduceEqDiff, Nat.reduceAdd, Nat.reduceSub, Nat.reduceMul, reduceIte, reduceCtorEq, bytes_nil, e1, zo93, setAV_nil, setAV_len, setAV_one, setAV_lay] <;> rfl); (first
          | (refine (f57_tr [9, 10, 12, 13, 32] (by decide) (by decide) _).mono ?_; rintro _ τ2 ⟨rfl, hτ2⟩; rw [hτ2])
          | (refine (f59_tr l [9, 10, 12, 13, 32] σ.next hd hn _ false 0 [] (get_push_same _ _)).mono ?_; rintro _ τ2 ⟨rfl, hτ2⟩; rw [hτ2])
          | (refine (f58_tr (rt [9, 10, 12, 13, 32] l) [9, 10, 12, 13, 32] σ.next (fun c h => hd c (rt_mem h)) (Nat.le_trans (rt_len _ _) hn) _ false 0 [] (get_push_same _ _)).mono ?_; rintro _ τ2 ⟨rfl, hτ2⟩; rw [hτ2])); (first | refine sk_id ?_ | (refine ⟨?_, ?_⟩; (repeat (first | exact trivial | ((first | (apply redos_r; rfl; rfl) | (apply redos_g; rfl; rfl; rfl; rfl)); (simp only [go_sem, Nat.reduceLT, Nat.reduceLeDiff, Nat.reduceEqDiff, Nat.reduceAdd, Nat.reduceSub, Nat.reduceMul, reduceIte, reduceCtorEq, bytes_nil, e1, zo93, setAV_nil, setAV_len, setAV_one, setAV_lay] <;> rfl)) | (apply redos_s; rfl; rfl; rfl; (simp only [go_sem, Nat.reduceLT, Nat.reduceLeDiff, Nat.reduceEqDiff, Nat.reduceAdd, Nat.reduceSub, Nat.reduceMul, reduceIte, reduceCtorEq, bytes_nil, e1, zo93, setAV_nil, setAV_len, setAV_one, setAV_lay] <;> rfl)))); refine sk_id ?_))))
    exact sk_ret ⟨_, (by first | (simp only [aRet, Tryd.results37, aResults, aResult, go_sem, Nat.reduceLT, Nat.reduceLeDiff, Nat.reduceEqDiff, Nat.reduceAdd, Nat.reduceSub, Nat.reduceMul, reduceIte, reduceCtorEq] <;> rfl) | fail), rfl, fun b x h => hk _ b x h, rfl, rfl⟩

theorem f36_tr (s p : List Nat) (σ : AHeap) : Tr Tryd.prog 36 [.str s, .str p] σ fun v σ' => v = .bool (pre p s) ∧ σ' = σ := by
  refine sk_body (m := 18) Tryd.func36 rfl (by decide) rfl ?_
  by_cases h : p.length ≤ s.length
  · have e1 : decide ((s.length : Int) ≥ (p.length : Int)) = true := decide_eq_true (by omega)
    have e2 : (0 : Int) ≤ (p.length : Int) := by omega
    have e3 : (p.length : Int) ≤ (s.length : Int) := by omega
    have e4 : beqL (s.take p.length) p = pre p s := by rw [beqL_eq, pre]
    repeat (first
      | refine sk_seq ?_
      | refine sk_region ?_
      | refine sk_ops_nil ?_
      | refine sk_block ?_
      | refine sk_blk ?_
      | refine sk_skip ?_
      | refine sk_exit rfl ?_
      | ((first | (apply sk_r; rfl; rfl) | (apply sk_w; rfl; rfl) | (apply sk_i; rfl) | (apply sk_g; rfl; rfl)); (simp only [go_sem, Nat.reduceLT, Nat.reduceLeDiff, Nat.reduceEqDiff, Nat.reduceAdd, Nat.reduceSub, Nat.reduceMul, reduceIte, reduceCtorEq, e1, e2, e3, e4, and_self, List.drop_zero] <;> rfl); (first | refine sk_id ?_ | refine cs_t ?_ | refine cs_f ?_ | refine gs_t rfl ?_ | refine gs_f rfl ?_)))
    exact sk_ret ⟨_, (by first | (simp only [aRet, Tryd.results36, aResults, aResult, go_sem, Nat.reduceLT, Nat.reduceLeDiff, Nat.reduceEqDiff, Nat.reduceAdd, Nat.reduceSub, Nat.reduceMul, reduceIte, reduceCtorEq, e4] <;> rfl) | fail), rfl, rfl⟩
  · have e1 : decide ((s.length : Int) ≥ (p.length : Int)) = false := decide_eq_false (by omega)
    have e4 : pre p s = false := by
      unfold pre
      refine decide_eq_false fun e => h ?_
      have := congrArg List.length e
      rw [List.length_take] at this
      omega
    repeat (first
      | refine sk_seq ?_
      | refine sk_region ?_
      | refine sk_ops_nil ?_
      | refine sk_block ?_
      | refine sk_blk ?_
      | refine sk_skip ?_
      | refine sk_exit rfl ?_
      | ((first | (apply sk_r; rfl; rfl) | (apply sk_w; rfl; rfl) | (apply sk_i; rfl) | (apply sk_g; rfl; rfl)); (simp only [go_sem, Nat.reduceLT, Nat.reduceLeDiff, Nat.reduceEqDiff, Nat.reduceAdd, Nat.reduceSub, Nat.reduceMul, reduceIte, reduceCtorEq, e1] <;> rfl); (first | refine sk_id ?_ | refine cs_t ?_ | refine cs_f ?_ | refine gs_t rfl ?_ | refine gs_f rfl ?_)))
    exact sk_ret ⟨_, (by first | (simp only [aRet, Tryd.results36, aResults, aResult, go_sem, Nat.reduceLT, Nat.reduceLeDiff, Nat.reduceEqDiff, Nat.reduceAdd, Nat.reduceSub, Nat.reduceMul, reduceIte, reduceCtorEq] <;> rfl) | fail), by rw [e4], rfl⟩

theorem f17_tr (s p : List Nat) (σ : AHeap) : Tr Tryd.prog 17 [.str s, .str p] σ fun v σ' => v = .bool (pre p s) ∧ σ' = σ := by
  refine sk_body (m := 8) Tryd.func17 rfl (by decide) rfl ?_
  repeat (first
    | refine sk_seq ?_
    | refine sk_region ?_
    | refine sk_ops_nil ?_
    | refine sk_block ?_
    | refine sk_blk ?_
    | refine sk_skip ?_
    | refine sk_exit rfl ?_
    | ((first | (apply sk_r; rfl; rfl) | (apply sk_w; rfl; rfl) | (apply sk_i; rfl) | (apply sk_g; rfl; rfl)); (simp only [go_sem, Nat.reduceLT, Nat.reduceLeDiff, Nat.reduceEqDiff, Nat.reduceAdd, Nat.reduceSub, Nat.reduceMul, reduceIte, reduceCtorEq] <;> rfl); (first | refine sk_id ?_ | refine cs_t ?_ | refine cs_f ?_ | refine gs_t rfl ?_ | refine gs_f rfl ?_))
    | ((first | (apply sk_c; rfl; rfl)); (simp only [go_sem, Nat.reduceLT, Nat.reduceLeDiff, Nat.reduceEqDiff, Nat.reduceAdd, Nat.reduceSub, Nat.reduceMul, reduceIte, reduceCtorEq] <;> rfl); (first
        | (refine (f36_tr s p _).mono ?_; rintro _ τ2 ⟨rfl, hτ2⟩; rw [hτ2])); refine sk_id ?_))
  exact sk_ret ⟨_, (by first | (simp only [aRet, Tryd.results17, aResults, aResult, go_sem, Nat.reduceLT, Nat.reduceLeDiff, Nat.reduceEqDiff, Nat.reduceAdd, Nat.reduceSub, Nat.reduceMul, reduceIte, reduceCtorEq] <;> rfl) | fail), rfl, rfl⟩

theorem f18_tr (l : List Nat) (hd : ∀ c ∈ l, c < 256) (hn : l.length ≤ 140737488355327) (σ : AHeap) :
    Tr Tryd.prog 18 [.str l] σ fun v σ' => v = .tuple [.int .i64 (labelOf ((tr B5 l).map low) : Nat), .bool (decide (labelOf ((tr B5 l).map low) ≠ 0))] ∧ σ' = σ := by
  refine sk_body (m := 22) Tryd.func18 rfl (by decide) rfl ?_
  have s37 := fun σ => f37_tr l hd hn σ
  have s32 := fun σ => f32_tr (tr B5 l) (fun c h => hd c (tr_mem h)) (Nat.le_trans (tr_len _ _) hn) σ
  generalize (tr B5 l).map low = m at *
  repeat (first
    | refine sk_seq ?_
    | refine sk_region ?_
    | refine sk_ops_nil ?_
    | refine sk_block ?_
    | refine sk_blk ?_
    | refine sk_skip ?_
    | refine sk_exit rfl ?_
    | ((first | (apply sk_r; rfl; rfl) | (apply sk_w; rfl; rfl) | (apply sk_i; rfl) | (apply sk_g; rfl; rfl)); (simp only [go_sem, Nat.reduceLT, Nat.reduceLeDiff, Nat.reduceEqDiff, Nat.reduceAdd, Nat.reduceSub, Nat.reduceMul, reduceIte, reduceCtorEq] <;> rfl); (first | refine sk_id ?_ | refine cs_t ?_ | refine cs_f ?_ | refine gs_t rfl ?_ | refine gs_f rfl ?_))
    | ((first | (apply sk_c; rfl; rfl)); (simp only [go_sem, Nat.reduceLT, Nat.reduceLeDiff, Nat.reduceEqDiff, Nat.reduceAdd, Nat.reduceSub, Nat.reduceMul, reduceIte, reduceCtorEq] <;> rfl); (first
        | (refine (s37 _).mono ?_; rintro _ τ2 ⟨rfl, hτ2⟩; rw [hτ2])
        | (refine (s32 _).mono ?_; rintro _ τ2 ⟨rfl, hτ2⟩; rw [hτ2])); refine sk_id ?_))
  by_cases h0 : m = [117, 116, 102, 45, 56]
  · subst h0
    repeat (first
      | refine sk_seq ?_
      | refine sk_region ?_
      | refine sk_ops_nil ?_
      | refine sk_block ?_
      | refine sk_blk ?_
      | refine sk_skip ?_
      | refine sk_exit rfl ?_
      | ((first | (apply sk_r; rfl; rfl) | (apply sk_w; rfl; rfl) | (apply sk_i; rfl) | (apply sk_g; rfl; rfl)); (simp only [go_sem, Nat.reduceLT, Nat.reduceLeDiff, Nat.reduceEqDiff, Nat.reduceAdd, Nat.reduceSub, Nat.reduceMul, reduceIte, reduceCtorEq] <;> rfl); (first | refine sk_id ?_ | refine cs_t ?_ | refine cs_f ?_ | refine gs_t rfl ?_ | refine gs_f rfl ?_)))
    exact sk_ret ⟨_, (by first | (simp only [aRet, Tryd.results18, aResults, aResult, go_sem, Nat.reduceLT, Nat.reduceLeDiff, Nat.reduceEqDiff, Nat.reduceAdd, Nat.reduceSub, Nat.reduceMul, reduceIte, reduceCtorEq] <;> rfl) | fail), by exact ⟨rfl, rfl⟩⟩
  have k0 : bytesOf { data := #[117, 116, 102, 45, 56] } = [117, 116, 102, 45, 56] := rfl
  have b0 : beqL m [117, 116, 102, 45, 56] = false := by rw [beqL_eq]; exact decide_eq_false h0
  repeat (first
    | refine sk_seq ?_
    | refine sk_region ?_
    | refine sk_ops_nil ?_
    | refine sk_block ?_
    | refine sk_blk ?_
    | refine sk_skip ?_
    | refine sk_exit rfl ?_
    | ((first | (apply sk_r; rfl; rfl) | (apply sk_w; rfl; rfl) | (apply sk_i; rfl) | (apply sk_g; rfl; rfl)); (simp only [go_sem, Nat.reduceLT, Nat.reduceLeDiff, Nat.reduceEqDiff, Nat.reduceAdd, Nat.reduceSub, Nat.reduceMul, reduceIte, reduceCtorEq, k0, b0] <;> rfl); (first | refine sk_id ?_ | refine cs_t ?_ | refine cs_f ?_ | refine gs_t rfl ?_ | refine gs_f rfl ?_)))
  by_cases h1 : m = [117, 116, 102, 56]
  · subst h1
    repeat (first
      | refine sk_seq ?_
      | refine sk_region ?_
      | refine sk_ops_nil ?_
      | refine sk_block ?_
      | refine sk_blk ?_
      | refine sk_skip ?_
      | refine sk_exit rfl ?_
      | ((first | (apply sk_r; rfl; rfl) | (apply sk_w; rfl; rfl) | (apply sk_i; rfl) | (apply sk_g; rfl; rfl)); (simp only [go_sem, Nat.reduceLT, Nat.reduceLeDiff, Nat.reduceEqDiff, Nat.reduceAdd, Nat.reduceSub, Nat.reduceMul, reduceIte, reduceCtorEq] <;> rfl); (first | refine sk_id ?_ | refine cs_t ?_ | refine cs_f ?_ | refine gs_t rfl ?_ | refine gs_f rfl ?_)))
    exact sk_ret ⟨_, (by first | (simp only [aRet, Tryd.results18, aResults, aResult, go_sem, Nat.reduceLT, Nat.reduceLeDiff, Nat.reduceEqDiff, Nat.reduceAdd, Nat.reduceSub, Nat.reduceMul, reduceIte, reduceCtorEq] <;> rfl) | fail), by exact ⟨rfl, rfl⟩⟩
  have k1 : bytesOf { data := #[117, 116, 102, 56] } = [117, 116, 102, 56] := rfl
  have b1 : beqL m [117, 116, 102, 56] = false := by rw [beqL_eq]; exact decide_eq_false h1
  repeat (first
    | refine sk_seq ?_
    | refine sk_region ?_
    | refine sk_ops_nil ?_
    | refine sk_block ?_
    | refine sk_blk ?_
    | refine sk_skip ?_
    | refine sk_exit rfl ?_
    | ((first | (apply sk_r; rfl; rfl) | (apply sk_w; rfl; rfl) | (apply sk_i; rfl) | (apply sk_g; rfl; rfl)); (simp only [go_sem, Nat.reduceLT, Nat.reduceLeDiff, Nat.reduceEqDiff, Nat.reduceAdd, Nat.reduceSub, Nat.reduceMul, reduceIte, reduceCtorEq, k1, b1] <;> rfl); (first | refine sk_id ?_ | refine cs_t ?_ | refine cs_f ?_ | refine gs_t rfl ?_ | refine gs_f rfl ?_)))
  by_cases h2 : m = [117, 110, 105, 99, 111, 100, 101, 45, 49, 45, 49, 45, 117, 116, 102, 45, 56]
  · subst h2
    repeat (first
      | refine sk_seq ?_
      | refine sk_region ?_
      | refine sk_ops_nil ?_
      | refine sk_block ?_
      | refine sk_blk ?_
      | refine sk_skip ?_
      | refine sk_exit rfl ?_
      | ((first | (apply sk_r; rfl; rfl) | (apply sk_w; rfl; rfl) | (apply sk_i; rfl) | (apply sk_g; rfl; rfl)); (simp only [go_sem, Nat.reduceLT, Nat.reduceLeDiff, Nat.reduceEqDiff, Nat.reduceAdd, Nat.reduceSub, Nat.reduceMul, reduceIte, reduceCtorEq] <;> rfl); (first | refine sk_id ?_ | refine cs_t ?_ | refine cs_f ?_ | refine gs_t rfl ?_ | refine gs_f rfl ?_)))
    exact sk_ret ⟨_, (by first | (simp only [aRet, Tryd.results18, aResults, aResult, go_sem, Nat.reduceLT, Nat.reduceLeDiff, Nat.reduceEqDiff, Nat.reduceAdd, Nat.reduceSub, Nat.reduceMul, reduceIte, reduceCtorEq] <;> rfl) | fail), by exact ⟨rfl, rfl⟩⟩
  have k2 : bytesOf { data := #[117, 110, 105, 99, 111, 100, 101, 45, 49, 45, 49, 45, 117, 116, 102, 45, 56] } = [117, 110, 105, 99, 111, 100, 101, 45, 49, 45, 49, 45, 117, 116, 102, 45, 56] := rfl
  have b2 : beqL m [117, 110, 105, 99, 111, 100, 101, 45, 49, 45, 49, 45, 117, 116, 102, 45, 56] = false := by rw [beqL_eq]; exact decide_eq_false h2
  repeat (first
    | refine sk_seq ?_
    | refine sk_region ?_
    | refine sk_ops_nil ?_
    | refine sk_block ?_
    | refine sk_blk ?_
    | refine sk_skip ?_
    | refine sk_exit rfl ?_
    | ((first | (apply sk_r; rfl; rfl) | (apply sk_w; rfl; rfl) | (apply sk_i; rfl) | (apply sk_g; rfl; rfl)); (simp only [go_sem, Nat.reduceLT, Nat.reduceLeDiff, Nat.reduceEqDiff, Nat.reduceAdd, Nat.reduceSub, Nat.reduceMul, reduceIte, reduceCtorEq, k2, b2] <;> rfl); (first | refine sk_id ?_ | refine cs_t ?_ | refine cs_f ?_ | refine gs_t rfl ?_ | refine gs_f rfl ?_)))
  by_cases h3 : m = [117, 116, 102, 45, 49, 54]
  · subst h3
    repeat (first
      | refine sk_seq ?_
      | refine sk_region ?_
      | refine sk_ops_nil ?_
      | refine sk_block ?_
      | refine sk_blk ?_
      | refine sk_skip ?_
      | refine sk_exit rfl ?_
      | ((first | (apply sk_r; rfl; rfl) | (apply sk_w; rfl; rfl) | (apply sk_i; rfl) | (apply sk_g; rfl; rfl)); (simp only [go_sem, Nat.reduceLT, Nat.reduceLeDiff, Nat.reduceEqDiff, Nat.reduceAdd, Nat.reduceSub, Nat.reduceMul, reduceIte, reduceCtorEq] <;> rfl); (first | refine sk_id ?_ | refine cs_t ?_ | refine cs_f ?_ | refine gs_t rfl ?_ | refine gs_f rfl ?_)))
    exact sk_ret ⟨_, (by first | (simp only [aRet, Tryd.results18, aResults, aResult, go_sem, Nat.reduceLT, Nat.reduceLeDiff, Nat.reduceEqDiff, Nat.reduceAdd, Nat.reduceSub, Nat.reduceMul, reduceIte, reduceCtorEq] <;> rfl) | fail), by exact ⟨rfl, rfl⟩⟩
  have k3 : bytesOf { data := #[117, 116, 102, 45, 49, 54] } = [117, 116, 102, 45, 49, 54] := rfl
  have b3 : beqL m [117, 116, 102, 45, 49, 54] = false := by rw [beqL_eq]; exact decide_eq_false h3
  repeat (first
    | refine sk_seq ?_
    | refine sk_region ?_
    | refine sk_ops_nil ?_
    | refine sk_block ?_
    | refine sk_blk ?_
    | refine sk_skip ?_
    | refine sk_exit rfl ?_
    | ((first | (apply sk_r; rfl; rfl) | (apply sk_w; rfl; rfl) | (apply sk_i; rfl) | (apply sk_g; rfl; rfl)); (simp only [go_sem, Nat.reduceLT, Nat.reduceLeDiff, Nat.reduceEqDiff, Nat.reduceAdd, Nat.reduceSub, Nat.reduceMul, reduceIte, reduceCtorEq, k3, b3] <;> rfl); (first | refine sk_id ?_ | refine cs_t ?_ | refine cs_f ?_ | refine gs_t rfl ?_ | refine gs_f rfl ?_)))
  by_cases h4 : m = [117, 116, 102, 45, 49, 54, 108, 101]
  · subst h4
    repeat (first
      | refine sk_seq ?_
      | refine sk_region ?_
      | refine sk_ops_nil ?_
      | refine sk_block ?_
      | refine sk_blk ?_
      | refine sk_skip ?_
      | refine sk_exit rfl ?_
      | ((first | (apply sk_r; rfl; rfl) | (apply sk_w; rfl; rfl) | (apply sk_i; rfl) | (apply sk_g; rfl; rfl)); (simp only [go_sem, Nat.reduceLT, Nat.reduceLeDiff, Nat.reduceEqDiff, Nat.reduceAdd, Nat.reduceSub, Nat.reduceMul, reduceIte, reduceCtorEq] <;> rfl); (first | refine sk_id ?_ | refine cs_t ?_ | refine cs_f ?_ | refine gs_t rfl ?_ | refine gs_f rfl ?_)))
    exact sk_ret ⟨_, (by first | (simp only [aRet, Tryd.results18, aResults, aResult, go_sem, Nat.reduceLT, Nat.reduceLeDiff, Nat.reduceEqDiff, Nat.reduceAdd, Nat.reduceSub, Nat.reduceMul, reduceIte, reduceCtorEq] <;> rfl) | fail), by exact ⟨rfl, rfl⟩⟩
  have k4 : bytesOf { data := #[117, 116, 102, 45, 49, 54, 108, 101] } = [117, 116, 102, 45, 49, 54, 108, 101] := rfl
  have b4 : beqL m [117, 116, 102, 45, 49, 54, 108, 101] = false := by rw [beqL_eq]; exact decide_eq_false h4
  repeat (first
    | refine sk_seq ?_
    | refine sk_region ?_
    | refine sk_ops_nil ?_
    | refine sk_block ?_
    | refine sk_blk ?_
    | refine sk_skip ?_
    | refine sk_exit rfl ?_
    | ((first | (apply sk_r; rfl; rfl) | (apply sk_w; rfl; rfl) | (apply sk_i; rfl) | (apply sk_g; rfl; rfl)); (simp only [go_sem, Nat.reduceLT, Nat.reduceLeDiff, Nat.reduceEqDiff, Nat.reduceAdd, Nat.reduceSub, Nat.reduceMul, reduceIte, reduceCtorEq, k4, b4] <;> rfl); (first | refine sk_id ?_ | refine cs_t ?_ | refine cs_f ?_ | refine gs_t rfl ?_ | refine gs_f rfl ?_)))
  by_cases h5 : m = [117, 116, 102, 45, 49, 54, 98, 101]
  · subst h5
    repeat (first
      | refine sk_seq ?_
      | refine sk_region ?_
      | refine sk_ops_nil ?_
      | refine sk_block ?_
      | refine sk_blk ?_
      | refine sk_skip ?_
      | refine sk_exit rfl ?_
      | ((first | (apply sk_r; rfl; rfl) | (apply sk_w; rfl; rfl) | (apply sk_i; rfl) | (apply sk_g; rfl; rfl)); (simp only [go_sem, Nat.reduceLT, Nat.reduceLeDiff, Nat.reduceEqDiff, Nat.reduceAdd, Nat.reduceSub, Nat.reduceMul, reduceIte, reduceCtorEq] <;> rfl); (first | refine sk_id ?_ | refine cs_t ?_ | refine cs_f ?_ | refine gs_t rfl ?_ | refine gs_f rfl ?_)))
    exact sk_ret ⟨_, (by first | (simp only [aRet, Tryd.results18, aResults, aResult, go_sem, Nat.reduceLT, Nat.reduceLeDiff, Nat.reduceEqDiff, Nat.reduceAdd, Nat.reduceSub, Nat.reduceMul, reduceIte, reduceCtorEq] <;> rfl) | fail), by exact ⟨rfl, rfl⟩⟩
  have k5 : bytesOf { data := #[117, 116, 102, 45, 49, 54, 98, 101] } = [117, 116, 102, 45, 49, 54, 98, 101] := rfl
  have b5 : beqL m [117, 116, 102, 45, 49, 54, 98, 101] = false := by rw [beqL_eq]; exact decide_eq_false h5
  repeat (first
    | refine sk_seq ?_
    | refine sk_region ?_
    | refine sk_ops_nil ?_
    | refine sk_block ?_
    | refine sk_blk ?_
    | refine sk_skip ?_
    | refine sk_exit rfl ?_
    | ((first | (apply sk_r; rfl; rfl) | (apply sk_w; rfl; rfl) | (apply sk_i; rfl) | (apply sk_g; rfl; rfl)); (simp only [go_sem, Nat.reduceLT, Nat.reduceLeDiff, Nat.reduceEqDiff, Nat.reduceAdd, Nat.reduceSub, Nat.reduceMul, reduceIte, reduceCtorEq, k5, b5] <;> rfl); (first | refine sk_id ?_ | refine cs_t ?_ | refine cs_f ?_ | refine gs_t rfl ?_ | refine gs_f rfl ?_)))
  by_cases h6 : m = [119, 105, 110, 100, 111, 119, 115, 45, 49, 50, 53, 50]
  · subst h6
    repeat (first
      | refine sk_seq ?_
      | refine sk_region ?_
      | refine sk_ops_nil ?_
      | refine sk_block ?_
      | refine sk_blk ?_
      | refine sk_skip ?_
      | refine sk_exit rfl ?_
      | ((first | (apply sk_r; rfl; rfl) | (apply sk_w; rfl; rfl) | (apply sk_i; rfl) | (apply sk_g; rfl; rfl)); (simp only [go_sem, Nat.reduceLT, Nat.reduceLeDiff, Nat.reduceEqDiff, Nat.reduceAdd, Nat.reduceSub, Nat.reduceMul, reduceIte, reduceCtorEq] <;> rfl); (first | refine sk_id ?_ | refine cs_t ?_ | refine cs_f ?_ | refine gs_t rfl ?_ | refine gs_f rfl ?_)))
    exact sk_ret ⟨_, (by first | (simp only [aRet, Tryd.results18, aResults, aResult, go_sem, Nat.reduceLT, Nat.reduceLeDiff, Nat.reduceEqDiff, Nat.reduceAdd, Nat.reduceSub, Nat.reduceMul, reduceIte, reduceCtorEq] <;> rfl) | fail), by exact ⟨rfl, rfl⟩⟩
  have k6 : bytesOf { data := #[119, 105, 110, 100, 111, 119, 115, 45, 49, 50, 53, 50] } = [119, 105, 110, 100, 111, 119, 115, 45, 49, 50, 53, 50] := rfl
  have b6 : beqL m [119, 105, 110, 100, 111, 119, 115, 45, 49, 50, 53, 50] = false := by rw [beqL_eq]; exact decide_eq_false h6
  repeat (first
    | refine sk_seq ?_
    | refine sk_region ?_
    | refine sk_ops_nil ?_
    | refine sk_block ?_
    | refine sk_blk ?_
    | refine sk_skip ?_
    | refine sk_exit rfl ?_
    | ((first | (apply sk_r; rfl; rfl) | (apply sk_w; rfl; rfl) | (apply sk_i; rfl) | (apply sk_g; rfl; rfl)); (simp only [go_sem, Nat.reduceLT, Nat.reduceLeDiff, Nat.reduceEqDiff, Nat.reduceAdd, Nat.reduceSub, Nat.reduceMul, reduceIte, reduceCtorEq, k6, b6] <;> rfl); (first | refine sk_id ?_ | refine cs_t ?_ | refine cs_f ?_ | refine gs_t rfl ?_ | refine gs_f rfl ?_)))
  by_cases h7 : m = [99, 112, 49, 50, 53, 50]
  · subst h7
    repeat (first
      | refine sk_seq ?_
      | refine sk_region ?_
      | refine sk_ops_nil ?_
      | refine sk_block ?_
      | refine sk_blk ?_
      | refine sk_skip ?_
      | refine sk_exit rfl ?_
      | ((first | (apply sk_r; rfl; rfl) | (apply sk_w; rfl; rfl) | (apply sk_i; rfl) | (apply sk_g; rfl; rfl)); (simp only [go_sem, Nat.reduceLT, Nat.reduceLeDiff, Nat.reduceEqDiff, Nat.reduceAdd, Nat.reduceSub, Nat.reduceMul, reduceIte, reduceCtorEq] <;> rfl); (first | refine sk_id ?_ | refine cs_t ?_ | refine cs_f ?_ | refine gs_t rfl ?_ | refine gs_f rfl ?_)))
    exact sk_ret ⟨_, (by first | (simp only [aRet, Tryd.results18, aResults, aResult, go_sem, Nat.reduceLT, Nat.reduceLeDiff, Nat.reduceEqDiff, Nat.reduceAdd, Nat.reduceSub, Nat.reduceMul, reduceIte, reduceCtorEq] <;> rfl) | fail), by exact ⟨rfl, rfl⟩⟩
  have k7 : bytesOf { data := #[99, 112, 49, 50, 53, 50] } = [99, 112, 49, 50, 53, 50] := rfl
  have b7 : beqL m [99, 112, 49, 50, 53, 50] = false := by rw [beqL_eq]; exact decide_eq_false h7
  repeat (first
    | refine sk_seq ?_
    | refine sk_region ?_
    | refine sk_ops_nil ?_
    | refine sk_block ?_
    | refine sk_blk ?_
    | refine sk_skip ?_
    | refine sk_exit rfl ?_
    | ((first | (apply sk_r; rfl; rfl) | (apply sk_w; rfl; rfl) | (apply sk_i; rfl) | (apply sk_g; rfl; rfl)); (simp only [go_sem, Nat.reduceLT, Nat.reduceLeDiff, Nat.reduceEqDiff, Nat.reduceAdd, Nat.reduceSub, Nat.reduceMul, reduceIte, reduceCtorEq, k7, b7] <;> rfl); (first | refine sk_id ?_ | refine cs_t ?_ | refine cs_f ?_ | refine gs_t rfl ?_ | refine gs_f rfl ?_)))
  by_cases h8 : m = [108, 97, 116, 105, 110, 49]
  · subst h8
    repeat (first
      | refine sk_seq ?_
      | refine sk_region ?_
      | refine sk_ops_nil ?_
      | refine sk_block ?_
      | refine sk_blk ?_
      | refine sk_skip ?_
      | refine sk_exit rfl ?_
      | ((first | (apply sk_r; rfl; rfl) | (apply sk_w; rfl; rfl) | (apply sk_i; rfl) | (apply sk_g; rfl; rfl)); (simp only [go_sem, Nat.reduceLT, Nat.reduceLeDiff, Nat.reduceEqDiff, Nat.reduceAdd, Nat.reduceSub, Nat.reduceMul, reduceIte, reduceCtorEq] <;> rfl); (first | refine sk_id ?_ | refine cs_t ?_ | refine cs_f ?_ | refine gs_t rfl ?_ | refine gs_f rfl ?_)))
    exact sk_ret ⟨_, (by first | (simp only [aRet, Tryd.results18, aResults, aResult, go_sem, Nat.reduceLT, Nat.reduceLeDiff, Nat.reduceEqDiff, Nat.reduceAdd, Nat.reduceSub, Nat.reduceMul, reduceIte, reduceCtorEq] <;> rfl) | fail), by exact ⟨rfl, rfl⟩⟩
  have k8 : bytesOf { data := #[108, 97, 116, 105, 110, 49] } = [108, 97, 116, 105, 110, 49] := rfl
  have b8 : beqL m [108, 97, 116, 105, 110, 49] = false := by rw [beqL_eq]; exact decide_eq_false h8
  repeat (first
    | refine sk_seq ?_
    | refine sk_region ?_
    | refine sk_ops_nil ?_
    | refine sk_block ?_
    | refine sk_blk ?_
    | refine sk_skip ?_
    | refine sk_exit rfl ?_
    | ((first | (apply sk_r; rfl; rfl) | (apply sk_w; rfl; rfl) | (apply sk_i; rfl) | (apply sk_g; rfl; rfl)); (simp only [go_sem, Nat.reduceLT, Nat.reduceLeDiff, Nat.reduceEqDiff, Nat.reduceAdd, Nat.reduceSub, Nat.reduceMul, reduceIte, reduceCtorEq, k8, b8] <;> rfl); (first | refine sk_id ?_ | refine cs_t ?_ | refine cs_f ?_ | refine gs_t rfl ?_ | refine gs_f rfl ?_)))
  by_cases h9 : m = [108, 49]
  · subst h9
    repeat (first
      | refine sk_seq ?_
      | refine sk_region ?_
      | refine sk_ops_nil ?_
      | refine sk_block ?_
      | refine sk_blk ?_
      | refine sk_skip ?_
      | refine sk_exit rfl ?_
      | ((first | (apply sk_r; rfl; rfl) | (apply sk_w; rfl; rfl) | (apply sk_i; rfl) | (apply sk_g; rfl; rfl)); (simp only [go_sem, Nat.reduceLT, Nat.reduceLeDiff, Nat.reduceEqDiff, Nat.reduceAdd, Nat.reduceSub, Nat.reduceMul, reduceIte, reduceCtorEq] <;> rfl); (first | refine sk_id ?_ | refine cs_t ?_ | refine cs_f ?_ | refine gs_t rfl ?_ | refine gs_f rfl ?_)))
    exact sk_ret ⟨_, (by first | (simp only [aRet, Tryd.results18, aResults, aResult, go_sem, Nat.reduceLT, Nat.reduceLeDiff, Nat.reduceEqDiff, Nat.reduceAdd, Nat.reduceSub, Nat.reduceMul, reduceIte, reduceCtorEq] <;> rfl) | fail), by exact ⟨rfl, rfl⟩⟩
  have k9 : bytesOf { data := #[108, 49] } = [108, 49] := rfl
  have b9 : beqL m [108, 49] = false := by rw [beqL_eq]; exact decide_eq_false h9
  repeat (first
    | refine sk_seq ?_
    | refine sk_region ?_
    | refine sk_ops_nil ?_
    | refine sk_block ?_
    | refine sk_blk ?_
    | refine sk_skip ?_
    | refine sk_exit rfl ?_
    | ((first | (apply sk_r; rfl; rfl) | (apply sk_w; rfl; rfl) | (apply sk_i; rfl) | (apply sk_g; rfl; rfl)); (simp only [go_sem, Nat.reduceLT, Nat.reduceLeDiff, Nat.reduceEqDiff, Nat.reduceAdd, Nat.reduceSub, Nat.reduceMul, reduceIte, reduceCtorEq, k9, b9] <;> rfl); (first | refine sk_id ?_ | refine cs_t ?_ | refine cs_f ?_ | refine gs_t rfl ?_ | refine gs_f rfl ?_)))
  by_cases h10 : m = [105, 115, 111, 45, 56, 56, 53, 57, 45, 49]
  · subst h10
    repeat (first
      | refine sk_seq ?_
      | refine sk_region ?_
      | refine sk_ops_nil ?_
      | refine sk_block ?_
      | refine sk_blk ?_
      | refine sk_skip ?_
      | refine sk_exit rfl ?_
      | ((first | (apply sk_r; rfl; rfl) | (apply sk_w; rfl; rfl) | (apply sk_i; rfl) | (apply sk_g; rfl; rfl)); (simp only [go_sem, Nat.reduceLT, Nat.reduceLeDiff, Nat.reduceEqDiff, Nat.reduceAdd, Nat.reduceSub, Nat.reduceMul, reduceIte, reduceCtorEq] <;> rfl); (first | refine sk_id ?_ | refine cs_t ?_ | refine cs_f ?_ | refine gs_t rfl ?_ | refine gs_f rfl ?_)))
    exact sk_ret ⟨_, (by first | (simp only [aRet, Tryd.results18, aResults, aResult, go_sem, Nat.reduceLT, Nat.reduceLeDiff, Nat.reduceEqDiff, Nat.reduceAdd, Nat.reduceSub, Nat.reduceMul, reduceIte, reduceCtorEq] <;> rfl) | fail), by exact ⟨rfl, rfl⟩⟩
  have k10 : bytesOf { data := #[105, 115, 111, 45, 56, 56, 53, 57, 45, 49] } = [105, 115, 111, 45, 56, 56, 53, 57, 45, 49] := rfl
  have b10 : beqL m [105, 115, 111, 45, 56, 56, 53, 57, 45, 49] = false := by rw [beqL_eq]; exact decide_eq_false h10
  repeat (first
    | refine sk_seq ?_
    | refine sk_region ?_
    | refine sk_ops_nil ?_
    | refine sk_block ?_
    | refine sk_blk ?_
    | refine sk_skip ?_
    | refine sk_exit rfl ?_
    | ((first | (apply sk_r; rfl; rfl) | (apply sk_w; rfl; rfl) | (apply sk_i; rfl) | (apply sk_g; rfl; rfl)); (simp only [go_sem, Nat.reduceLT, Nat.reduceLeDiff, Nat.reduceEqDiff, Nat.reduceAdd, Nat.reduceSub, Nat.reduceMul, reduceIte, reduceCtorEq, k10, b10] <;> rfl); (first | refine sk_id ?_ | refine cs_t ?_ | refine cs_f ?_ | refine gs_t rfl ?_ | refine gs_f rfl ?_)))
  by_cases h11 : m = [97, 115, 99, 105, 105]
  · subst h11
    repeat (first
      | refine sk_seq ?_
      | refine sk_region ?_
      | refine sk_ops_nil ?_
      | refine sk_block ?_
      | refine sk_blk ?_
      | refine sk_skip ?_
      | refine sk_exit rfl ?_
      | ((first | (apply sk_r; rfl; rfl) | (apply sk_w; rfl; rfl) | (apply sk_i; rfl) | (apply sk_g; rfl; rfl)); (simp only [go_sem, Nat.reduceLT, Nat.reduceLeDiff, Nat.reduceEqDiff, Nat.reduceAdd, Nat.reduceSub, Nat.reduceMul, reduceIte, reduceCtorEq] <;> rfl); (first | refine sk_id ?_ | refine cs_t ?_ | refine cs_f ?_ | refine gs_t rfl ?_ | refine gs_f rfl ?_)))
    exact sk_ret ⟨_, (by first | (simp only [aRet, Tryd.results18, aResults, aResult, go_sem, Nat.reduceLT, Nat.reduceLeDiff, Nat.reduceEqDiff, Nat.reduceAdd, Nat.reduceSub, Nat.reduceMul, reduceIte, reduceCtorEq] <;> rfl) | fail), by exact ⟨rfl, rfl⟩⟩
  have k11 : bytesOf { data := #[97, 115, 99, 105, 105] } = [97, 115, 99, 105, 105] := rfl
  have b11 : beqL m [97, 115, 99, 105, 105] = false := by rw [beqL_eq]; exact decide_eq_false h11
  repeat (first
    | refine sk_seq ?_
    | refine sk_region ?_
    | refine sk_ops_nil ?_
    | refine sk_block ?_
    | refine sk_blk ?_
    | refine sk_skip ?_
    | refine sk_exit rfl ?_
    | ((first | (apply sk_r; rfl; rfl) | (apply sk_w; rfl; rfl) | (apply sk_i; rfl) | (apply sk_g; rfl; rfl)); (simp only [go_sem, Nat.reduceLT, Nat.reduceLeDiff, Nat.reduceEqDiff, Nat.reduceAdd, Nat.reduceSub, Nat.reduceMul, reduceIte, reduceCtorEq, k11, b11] <;> rfl); (first | refine sk_id ?_ | refine cs_t ?_ | refine cs_f ?_ | refine gs_t rfl ?_ | refine gs_f rfl ?_)))
  by_cases h12 : m = [117, 115, 45, 97, 115, 99, 105, 105]
  · subst h12
    repeat (first
      | refine sk_seq ?_
      | refine sk_region ?_
      | refine sk_ops_nil ?_
      | refine sk_block ?_
      | refine sk_blk ?_
      | refine sk_skip ?_
      | refine sk_exit rfl ?_
      | ((first | (apply sk_r; rfl; rfl) | (apply sk_w; rfl; rfl) | (apply sk_i; rfl) | (apply sk_g; rfl; rfl)); (simp only [go_sem, Nat.reduceLT, Nat.reduceLeDiff, Nat.reduceEqDiff, Nat.reduceAdd, Nat.reduceSub, Nat.reduceMul, reduceIte, reduceCtorEq] <;> rfl); (first | refine sk_id ?_ | refine cs_t ?_ | refine cs_f ?_ | refine gs_t rfl ?_ | refine gs_f rfl ?_)))
    exact sk_ret ⟨_, (by first | (simp only [aRet, Tryd.results18, aResults, aResult, go_sem, Nat.reduceLT, Nat.reduceLeDiff, Nat.reduceEqDiff, Nat.reduceAdd, Nat.reduceSub, Nat.reduceMul, reduceIte, reduceCtorEq] <;> rfl) | fail), by exact ⟨rfl, rfl⟩⟩
  have k12 : bytesOf { data := #[117, 115, 45, 97, 115, 99, 105, 105] } = [117, 115, 45, 97, 115, 99, 105, 105] := rfl
  have b12 : beqL m [117, 115, 45, 97, 115, 99, 105, 105] = false := by rw [beqL_eq]; exact decide_eq_false h12
  repeat (first
    | refine sk_seq ?_
    | refine sk_region ?_
    | refine sk_ops_nil ?_
    | refine sk_block ?_
    | refine sk_blk ?_
    | refine sk_skip ?_
    | refine sk_exit rfl ?_
    | ((first | (apply sk_r; rfl; rfl) | (apply sk_w; rfl; rfl) | (apply sk_i; rfl) | (apply sk_g; rfl; rfl)); (simp only [go_sem, Nat.reduceLT, Nat.reduceLeDiff, Nat.reduceEqDiff, Nat.reduceAdd, Nat.reduceSub, Nat.reduceMul, reduceIte, reduceCtorEq, k12, b12] <;> rfl); (first | refine sk_id ?_ | refine cs_t ?_ | refine cs_f ?_ | refine gs_t rfl ?_ | refine gs_f rfl ?_)))
  have hz : labelOf m = 0 := by
    unfold labelOf utfs wins
    rw [if_neg (by simp only [List.mem_cons, List.not_mem_nil, or_false, not_or]; exact ⟨h0, h1, h2, h3, h4, h5⟩), if_neg (by simp only [List.mem_cons, List.not_mem_nil, or_false, not_or]; exact ⟨h6, h7, h8, h9, h10, h11, h12⟩)]
  exact sk_ret ⟨_, (by first | (simp only [aRet, Tryd.results18, aResults, aResult, go_sem, Nat.reduceLT, Nat.reduceLeDiff, Nat.reduceEqDiff, Nat.reduceAdd, Nat.reduceSub, Nat.reduceMul, reduceIte, reduceCtorEq] <;> rfl) | fail), by rw [hz]; exact ⟨rfl, rfl⟩⟩
end Go.Proofs.YtophnlmdcidolaaDoor
