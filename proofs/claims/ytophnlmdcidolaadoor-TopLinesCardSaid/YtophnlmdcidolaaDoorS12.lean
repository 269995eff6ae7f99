import Derived.Test.YtophnlmdcidolaaDoorS10
set_option linter.all false
namespace Go.Am
def intsAV (l : List Nat) : List AV := l.map fun a => .int .i64 (a : Nat)
theorem intsAV_get {l : List Nat} {i a : Nat} (h : l[i]? = some a) : (intsAV l)[i]? = some (.int .i64 (a : Nat)) := by
  unfold intsAV; rw [List.getElem?_map, h]; rfl
theorem intsAV_len (l : List Nat) : (intsAV l).length = l.length := by unfold intsAV; rw [List.length_map]
def firstGe (l : List Nat) (x : Nat) : Nat := (l.takeWhile fun a => decide (a < x)).length
theorem firstGe_of {l : List Nat} {x i : Nat} (hi : i ≤ l.length) (h1 : ∀ a ∈ l.take i, a < x) (h2 : ∀ a ∈ l.drop i, x ≤ a) : firstGe l x = i := by
  unfold firstGe
  conv => lhs; rw [← List.take_append_drop i l]
  rw [List.takeWhile_append_of_pos (fun a ha => decide_eq_true (h1 a ha))]
  have : (l.drop i).takeWhile (fun a => decide (a < x)) = [] := by
    cases e : l.drop i with
    | nil => rfl
    | cons a t =>
      have := h2 a (by rw [e]; simp)
      rw [List.takeWhile_cons_of_neg (by simp; omega)]
  rw [this, List.append_nil, List.length_take, Nat.min_eq_left hi]
theorem wrap_u64 {n : Int} (h0 : 0 ≤ n) (h : n ≤ 9223372036854775807) : IntKind.wrap .u64 n = n := by
  unfold IntKind.wrap
  simp only [IntKind.bits, IntKind.signed]
  have : ((2:Int)^64) = 18446744073709551616 := by decide
  simp only [this, Bool.false_and]
  split
  · rename_i h; simp at h
  · omega
theorem sorted_drop {l : List Nat} {h a : Nat} (hs : l.Pairwise (· ≤ ·)) (ha : l[h]? = some a) : ∀ b ∈ l.drop h, a ≤ b := by
  intro b hb
  rw [← List.take_append_drop h l, drop_some ha] at hs
  have := (List.pairwise_cons.1 (List.pairwise_append.1 hs).2.1).1
  rw [drop_some ha] at hb
  rcases List.mem_cons.1 hb with rfl | hb
  · exact Nat.le_refl _
  · exact this b hb
theorem sorted_take {l : List Nat} {h a : Nat} (hs : l.Pairwise (· ≤ ·)) (ha : l[h]? = some a) : ∀ b ∈ l.take (h + 1), b ≤ a := by
  intro b hb
  rw [List.take_succ, ha] at hb
  rcases List.mem_append.1 hb with hb | hb
  · rw [← List.take_append_drop h l, drop_some ha] at hs
    exact (List.pairwise_append.1 hs).2.2 b hb a (by simp)
  · simp at hb; subst hb; exact Nat.le_refl _
variable {P : Program} {n : Nat} {Q : Exit → PT AV → AHeap → Prop} {k : List Item} {fr : PT AV} {σ : AHeap}
theorem sk_box {arr : Array Oper} {rest : List Oper} {dst : Option Tmp} {ty t : TypeId} {pos : String} {aft : Array Edge} {x : Operand} {v : AV} {c : List AV} (hok : opOk P (.box t x) = true) (hx : aeval fr x = v) (hc : aCells v = c)
    (h : SK P n Q (.ops arr rest :: k) .normal (fput n fr dst (.ptr σ.next 0)) (σ.push (.cells c false 0 []))) : SK P n Q (.ops arr (⟨dst, .box t x, ty, pos, aft, none⟩ :: rest) :: k) .normal fr σ := by
  refine sk_wr hok ?_ h
  rw [wr_box, hx, hc]
end Go.Am
namespace Go.Proofs.YtophnlmdcidolaaDoor
open Go Go.Am
set_option maxHeartbeats 8000000
set_option maxRecDepth 100000

theorem f47_tr {σ : AHeap} {X Y b : Nat} {l : List Nat} {i a x : Nat} (hX : σ.m.get X = some (.cells [slV b l.length 1] false 0 [])) (hY : σ.m.get Y = some (.cells [.int .i64 (x : Nat)] false 0 [])) (hb : l ≠ [] → σ.m.get b = some (.cells (intsAV l) false 0 [])) (ha : l[i]? = some a) :
    Tr Tryd.prog 47 [.int .i64 (i : Nat), .ptr X 0, .ptr Y 0] σ fun v σ' => v = .bool (decide ((a : Int) ≥ (x : Int))) ∧ σ' = σ := by
  have hi : i < l.length := (List.getElem?_eq_some_iff.1 ha).1
  rw [slV_some (by omega)] at hX
  have hb := hb (by intro e; rw [e] at hi; simp at hi)
  refine sk_body (m := 11) Tryd.func47 rfl (by decide) rfl ?_
  have e2 : (0 : Int) ≤ (i : Int) := by omega
  have e3 : (i : Int) < (l.length : Int) := by omega
  have e5 := intsAV_get ha
  repeat (first
    | refine sk_seq ?_
    | refine sk_region ?_
    | refine sk_ops_nil ?_
    | refine sk_draw_nil ?_
    | refine sk_block ?_
    | refine sk_blk ?_
    | refine sk_skip ?_
    | refine sk_exit rfl ?_
    | refine sk_draw (id := 1) [0, 1, 2, 3, 4, 5, 6] mixed (by kernel_rfl) ?_
    | ((first | (apply sk_r; rfl; rfl) | (apply sk_w; rfl; rfl) | (apply sk_i; rfl) | (apply sk_g; rfl; rfl) | (apply sk_dr; rfl; rfl; rfl) | (apply sk_dg; rfl; rfl; rfl; rfl; rfl) | apply drd_i | (apply sk_dnr (i := 6) (fl := []); rfl; rfl; decide +kernel; rfl; rfl) | (apply sk_dnw (i := 6) (fl := []); rfl; rfl; decide +kernel; rfl; rfl)); (simp only [go_sem, Nat.reduceLT, Nat.reduceLeDiff, Nat.reduceEqDiff, Nat.reduceAdd, Nat.reduceSub, Nat.reduceMul, reduceIte, reduceCtorEq, hX, hY, hb, e2, e3, e5, and_self] <;> rfl); (first | refine sk_id ?_ | refine cs_t ?_ | refine cs_f ?_ | refine gs_t rfl ?_ | refine gs_f rfl ?_ | ((repeat (first | exact trivial | ((first | (apply redos_r; rfl; rfl) | (apply redos_g; rfl; rfl; rfl; rfl)); (simp only [go_sem, Nat.reduceLT, Nat.reduceLeDiff, Nat.reduceEqDiff, Nat.reduceAdd, Nat.reduceSub, Nat.reduceMul, reduceIte, reduceCtorEq, hX, hY, hb, e2, e3, e5, and_self] <;> rfl)) | (apply redos_s; rfl; rfl; rfl; (simp only [go_sem, Nat.reduceLT, Nat.reduceLeDiff, Nat.reduceEqDiff, Nat.reduceAdd, Nat.reduceSub, Nat.reduceMul, reduceIte, reduceCtorEq, hX, hY, hb, e2, e3, e5, and_self] <;> rfl)))); refine sk_id ?_))))
  exact sk_ret ⟨_, (by first | (simp only [aRet, Tryd.results47, aResults, aResult, go_sem, Nat.reduceLT, Nat.reduceLeDiff, Nat.reduceEqDiff, Nat.reduceAdd, Nat.reduceSub, Nat.reduceMul, reduceIte, reduceCtorEq] <;> rfl) | fail), rfl, rfl⟩

theorem f46_tr {σ : AHeap} {X Y : Nat} {l : List Nat} {x : Nat} (hs : l.Pairwise (· ≤ ·)) (hl : l.length ≤ 1000000) (hf : ∀ i a : Nat, l[i]? = some a → Tr Tryd.prog 47 [.int .i64 (i : Nat), .ptr X 0, .ptr Y 0] σ fun v σ' => v = .bool (decide ((a : Int) ≥ (x : Int))) ∧ σ' = σ) :
    Tr Tryd.prog 46 [.int .i64 (l.length : Nat), .func (.func 47) [] [.ptr X 0, .ptr Y 0]] σ fun v σ' => v = .int .i64 (firstGe l x : Nat) ∧ σ' = σ := by
  refine sk_body (m := 26) Tryd.func46 rfl (by decide) rfl ?_
  repeat (first
    | refine sk_seq ?_
    | refine sk_region ?_
    | refine sk_ops_nil ?_
    | refine sk_block ?_
    | refine sk_blk ?_
    | refine sk_skip ?_
    | refine sk_exit rfl ?_
    | ((first | (apply sk_r; rfl; rfl) | (apply sk_w; rfl; rfl) | (apply sk_i; rfl) | (apply sk_g; rfl; rfl)); (simp only [go_sem, Nat.reduceLT, Nat.reduceLeDiff, Nat.reduceEqDiff, Nat.reduceAdd, Nat.reduceSub, Nat.reduceMul, reduceIte, reduceCtorEq] <;> rfl); (first | refine sk_id ?_ | refine cs_t ?_ | refine cs_f ?_ | refine gs_t rfl ?_ | refine gs_f rfl ?_)))
  refine sk_loop (fun m fr σ' => ∃ i j, m = j - i ∧ i ≤ j ∧ j ≤ l.length ∧ (∀ a ∈ l.take i, a < x) ∧ (∀ a ∈ l.drop j, x ≤ a) ∧ σ' = σ ∧ fget fr 1 = .func (.func 47) [] [.ptr X 0, .ptr Y 0] ∧ fget fr 5 = .int .i64 (i : Nat) ∧ fget fr 6 = .int .i64 (j : Nat)) _
    ⟨0, l.length, rfl, Nat.zero_le _, Nat.le_refl _, by simp, by simp, rfl, (by first | (simp only [go_sem, Nat.reduceLT, Nat.reduceLeDiff, Nat.reduceEqDiff, Nat.reduceAdd, Nat.reduceSub, Nat.reduceMul, reduceIte, reduceCtorEq] <;> rfl) | fail), (by first | (simp only [go_sem, Nat.reduceLT, Nat.reduceLeDiff, Nat.reduceEqDiff, Nat.reduceAdd, Nat.reduceSub, Nat.reduceMul, reduceIte, reduceCtorEq] <;> rfl) | fail), (by first | (simp only [go_sem, Nat.reduceLT, Nat.reduceLeDiff, Nat.reduceEqDiff, Nat.reduceAdd, Nat.reduceSub, Nat.reduceMul, reduceIte, reduceCtorEq] <;> rfl) | fail)⟩ ?_
  rintro _ fr σ' ⟨i, j, rfl, hij, hj, h1, h2, hσ, hF, h5, h6⟩
  rw [hσ]
  by_cases hlt : i < j
  · have e1 : decide ((i : Int) < (j : Int)) = true := decide_eq_true (by omega)
    obtain ⟨h, hh⟩ : ∃ h, h = (i + j) / 2 := ⟨_, rfl⟩
    have w1 : IntKind.wrap .i64 ((i : Int) + (j : Int)) = ((i + j : Nat) : Int) := by rw [wrap_i64 (by omega) (by omega)]; rfl
    have w2 : IntKind.wrap .u64 ((i + j : Nat) : Int) = ((i + j : Nat) : Int) := wrap_u64 (by omega) (by omega)
    have w3 : ((i + j : Nat) : Int).fdiv (2 ^ min (Int.toNat 1) 64) = ((h : Nat) : Int) := by
      rw [show (2 : Int) ^ min (Int.toNat 1) 64 = 2 by decide, Int.fdiv_eq_ediv_of_nonneg _ (by decide)]; omega
    have w4 : IntKind.wrap .i64 (h : Int) = (h : Int) := wrap_i64 (by omega) (by omega)
    obtain ⟨a, ha⟩ := at_some (d := l) (k := h) (by omega)
    by_cases hax : x ≤ a
    · have e2 : decide ((a : Int) ≥ (x : Int)) = true := decide_eq_true (by omega)
      repeat (first
        | refine sk_seq ?_
        | refine sk_region ?_
        | refine sk_ops_nil ?_
        | refine sk_block ?_
        | refine sk_blk ?_
        | refine sk_skip ?_
        | refine sk_exit rfl ?_
        | ((first | (apply sk_r; rfl; rfl) | (apply sk_w; rfl; rfl) | (apply sk_i; rfl) | (apply sk_g; rfl; rfl)); (simp only [go_sem, Nat.reduceLT, Nat.reduceLeDiff, Nat.reduceEqDiff, Nat.reduceAdd, Nat.reduceSub, Nat.reduceMul, reduceIte, reduceCtorEq, hF, h5, h6, e1, w1, w2, w3, w4] <;> rfl); (first | refine sk_id ?_ | refine cs_t ?_ | refine cs_f ?_ | refine gs_t rfl ?_ | refine gs_f rfl ?_))
        | ((first | (apply sk_c; rfl; rfl)); (simp only [go_sem, Nat.reduceLT, Nat.reduceLeDiff, Nat.reduceEqDiff, Nat.reduceAdd, Nat.reduceSub, Nat.reduceMul, reduceIte, reduceCtorEq, hF, h5, h6, e1, w1, w2, w3, w4] <;> rfl); (first
            | (refine (hf h a ha).mono ?_; rintro _ τ ⟨rfl, hτ⟩; rw [hτ, e2])); refine sk_id ?_))
      exact sk_stop ⟨h - i, by omega, i, h, rfl, by omega, by omega, h1, fun b hb => Nat.le_trans hax (sorted_drop hs ha b hb), rfl, (by first | (simp only [go_sem, Nat.reduceLT, Nat.reduceLeDiff, Nat.reduceEqDiff, Nat.reduceAdd, Nat.reduceSub, Nat.reduceMul, reduceIte, reduceCtorEq, hF] <;> rfl) | fail), (by first | (simp only [go_sem, Nat.reduceLT, Nat.reduceLeDiff, Nat.reduceEqDiff, Nat.reduceAdd, Nat.reduceSub, Nat.reduceMul, reduceIte, reduceCtorEq, h5] <;> rfl) | fail), (by first | (simp only [go_sem, Nat.reduceLT, Nat.reduceLeDiff, Nat.reduceEqDiff, Nat.reduceAdd, Nat.reduceSub, Nat.reduceMul, reduceIte, reduceCtorEq] <;> rfl) | fail)⟩
    · have e2 : decide ((a : Int) ≥ (x : Int)) = false := decide_eq_false (by omega)
      have w5 : IntKind.wrap .i64 ((h : Int) + 1) = ((h + 1 : Nat) : Int) := wrap_i64 (by omega) (by omega)
      repeat (first
        | refine sk_seq ?_
        | refine sk_region ?_
        | refine sk_ops_nil ?_
        | refine sk_block ?_
        | refine sk_blk ?_
        | refine sk_skip ?_
        | refine sk_exit rfl ?_
        | ((first | (apply sk_r; rfl; rfl) | (apply sk_w; rfl; rfl) | (apply sk_i; rfl) | (apply sk_g; rfl; rfl)); (simp only [go_sem, Nat.reduceLT, Nat.reduceLeDiff, Nat.reduceEqDiff, Nat.reduceAdd, Nat.reduceSub, Nat.reduceMul, reduceIte, reduceCtorEq, hF, h5, h6, e1, w1, w2, w3, w4, w5] <;> rfl); (first | refine sk_id ?_ | refine cs_t ?_ | refine cs_f ?_ | refine gs_t rfl ?_ | refine gs_f rfl ?_))
        | ((first | (apply sk_c; rfl; rfl)); (simp only [go_sem, Nat.reduceLT, Nat.reduceLeDiff, Nat.reduceEqDiff, Nat.reduceAdd, Nat.reduceSub, Nat.reduceMul, reduceIte, reduceCtorEq, hF, h5, h6, e1, w1, w2, w3, w4, w5] <;> rfl); (first
            | (refine (hf h a ha).mono ?_; rintro _ τ ⟨rfl, hτ⟩; rw [hτ, e2])); refine sk_id ?_))
      exact sk_stop ⟨j - (h + 1), by omega, h + 1, j, rfl, by omega, by omega, fun b hb => by have := sorted_take hs ha b hb; omega, h2, rfl, (by first | (simp only [go_sem, Nat.reduceLT, Nat.reduceLeDiff, Nat.reduceEqDiff, Nat.reduceAdd, Nat.reduceSub, Nat.reduceMul, reduceIte, reduceCtorEq, hF] <;> rfl) | fail), (by first | (simp only [go_sem, Nat.reduceLT, Nat.reduceLeDiff, Nat.reduceEqDiff, Nat.reduceAdd, Nat.reduceSub, Nat.reduceMul, reduceIte, reduceCtorEq] <;> rfl) | fail), (by first | (simp only [go_sem, Nat.reduceLT, Nat.reduceLeDiff, Nat.reduceEqDiff, Nat.reduceAdd, Nat.reduceSub, Nat.reduceMul, reduceIte, reduceCtorEq, h6] <;> rfl) | fail)⟩
  · have e1 : decide ((i : Int) < (j : Int)) = false := decide_eq_false (by omega)
    have : i = j := by omega
    subst this
    repeat (first
      | refine sk_seq ?_
      | refine sk_region ?_
      | refine sk_ops_nil ?_
      | refine sk_block ?_
      | refine sk_blk ?_
      | refine sk_skip ?_
      | refine sk_exit rfl ?_
      | ((first | (apply sk_r; rfl; rfl) | (apply sk_w; rfl; rfl) | (apply sk_i; rfl) | (apply sk_g; rfl; rfl)); (simp only [go_sem, Nat.reduceLT, Nat.reduceLeDiff, Nat.reduceEqDiff, Nat.reduceAdd, Nat.reduceSub, Nat.reduceMul, reduceIte, reduceCtorEq, hF, h5, h6, e1] <;> rfl); (first | refine sk_id ?_ | refine cs_t ?_ | refine cs_f ?_ | refine gs_t rfl ?_ | refine gs_f rfl ?_)))
    exact sk_ret ⟨_, (by first | (simp only [aRet, Tryd.results46, aResults, aResult, go_sem, Nat.reduceLT, Nat.reduceLeDiff, Nat.reduceEqDiff, Nat.reduceAdd, Nat.reduceSub, Nat.reduceMul, reduceIte, reduceCtorEq] <;> rfl) | fail), by rw [firstGe_of hj h1 h2], rfl⟩

theorem f31_tr {σ : AHeap} {b : Nat} {l : List Nat} {x : Nat} (hs : l.Pairwise (· ≤ ·)) (hl : l.length ≤ 1000000) (hb : l ≠ [] → σ.m.get b = some (.cells (intsAV l) false 0 [])) :
    Tr Tryd.prog 31 [slV b l.length 1, .int .i64 (x : Nat)] σ fun v σ' => v = .int .i64 (firstGe l x : Nat) ∧ σ' = σ := by
  refine Tr.wf fun hW => Tr.pure ?_
  refine sk_body (m := 9) Tryd.func31 rfl (by decide) rfl ?_
  have hX : ∀ Z, ((σ.push (.cells [slV b l.length 1] false 0 [])).push Z).m.get σ.next = some (.cells [slV b l.length 1] false 0 []) := fun Z => by rw [get_push, if_neg (by rw [next_push]; omega), get_push_same]
  have k2 := keep_push (σ := σ) (σ' := σ.push (.cells [slV b l.length 1] false 0 [])) (x := .cells [.int .i64 (x : Nat)] false 0 []) hW (by rw [next_push]; omega) (keep_push hW (Nat.le_refl _) fun _ _ k => k)
  have z : aCells (slV b l.length 1) = [slV b l.length 1] := by cases l.length <;> rfl
  repeat (first
    | refine sk_len (b := b) (m := l.length) (z := 1) Tryd.underlying59 rfl (by first | (simp only [go_sem, Nat.reduceLT, Nat.reduceLeDiff, Nat.reduceEqDiff, Nat.reduceAdd, Nat.reduceSub, Nat.reduceMul, reduceIte, reduceCtorEq, hX] <;> rfl) | fail) ?_
    | refine sk_box (v := slV b l.length 1) rfl (by first | (simp only [go_sem, Nat.reduceLT, Nat.reduceLeDiff, Nat.reduceEqDiff, Nat.reduceAdd, Nat.reduceSub, Nat.reduceMul, reduceIte, reduceCtorEq, hX] <;> rfl) | fail) z ?_
    | refine sk_seq ?_
    | refine sk_region ?_
    | refine sk_ops_nil ?_
    | refine sk_block ?_
    | refine sk_blk ?_
    | refine sk_skip ?_
    | refine sk_exit rfl ?_
    | ((first | (apply sk_r; rfl; rfl) | (apply sk_w; rfl; rfl) | (apply sk_i; rfl) | (apply sk_g; rfl; rfl)); (simp only [go_sem, Nat.reduceLT, Nat.reduceLeDiff, Nat.reduceEqDiff, Nat.reduceAdd, Nat.reduceSub, Nat.reduceMul, reduceIte, reduceCtorEq, hX] <;> rfl); (first | refine sk_id ?_ | refine cs_t ?_ | refine cs_f ?_ | refine gs_t rfl ?_ | refine gs_f rfl ?_))
    | ((first | (apply sk_c; rfl; rfl)); (simp only [go_sem, Nat.reduceLT, Nat.reduceLeDiff, Nat.reduceEqDiff, Nat.reduceAdd, Nat.reduceSub, Nat.reduceMul, reduceIte, reduceCtorEq, hX] <;> rfl); (first
        | (refine (f46_tr hs hl fun i a ha => f47_tr (hX (.cells [.int .i64 (x : Nat)] false 0 [])) (get_push_same (σ.push _) _) (fun e => k2 _ _ (hb e)) ha).mono ?_; rintro _ τ ⟨rfl, hτ⟩; rw [hτ])); refine sk_id ?_))
  trace_state
  exact sk_ret ⟨_, (by first | (simp only [aRet, Tryd.results31, aResults, aResult, go_sem, Nat.reduceLT, Nat.reduceLeDiff, Nat.reduceEqDiff, Nat.reduceAdd, Nat.reduceSub, Nat.reduceMul, reduceIte, reduceCtorEq] <;> rfl) | fail), rfl, k2, rfl, rfl⟩
end Go.Proofs.YtophnlmdcidolaaDoor
namespace Go.Am
theorem firstGe_le (l : List Nat) (x : Nat) : firstGe l x ≤ l.length := (List.takeWhile_sublist _).length_le
theorem tw_all {p : Nat → Bool} : ∀ {l : List Nat} {a : Nat}, a ∈ l.takeWhile p → p a = true
  | [], a, h => by simp at h
  | x :: l, a, h => by
    by_cases hx : p x = true
    · rw [List.takeWhile_cons_of_pos hx] at h
      rcases List.mem_cons.1 h with rfl | h
      · exact hx
      · exact tw_all h
    · rw [List.takeWhile_cons_of_neg hx] at h; simp at h
theorem firstGe_lt {l : List Nat} {x i a : Nat} (hi : i < firstGe l x) (ha : l[i]? = some a) : a < x := by
  have hp : (l.takeWhile fun a => decide (a < x)) <+: l := List.takeWhile_prefix _
  obtain ⟨t, ht⟩ := hp
  have h1 : (l.takeWhile fun a => decide (a < x))[i]? = some a := by
    rw [← ht] at ha
    rwa [List.getElem?_append_left hi] at ha
  have h2 := List.mem_of_getElem? h1
  have h3 := tw_all h2
  exact of_decide_eq_true h3
/-- line and column of the scalar n, with the newlines at 'lines' -/
def lineCol (lines : List Nat) (n : Nat) : Nat × Nat := if firstGe lines n = 0 then (1, n + 1) else (firstGe lines n + 1, n - (lines[firstGe lines n - 1]?).getD 0)
end Go.Am
namespace Go.Proofs.YtophnlmdcidolaaDoor
open Go Go.Am
set_option maxHeartbeats 8000000
set_option maxRecDepth 100000

theorem f15_tr {σ : AHeap} {T pb lb : Nat} {places lines : List Nat} {x : Nat} {ro : Bool} {fz : Nat} {ps : List Nat} (hT : σ.m.get T = some (.cells [slV pb places.length 1, slV lb lines.length 1] ro fz ps)) (hp : places ≠ [] → σ.m.get pb = some (.cells (intsAV places) false 0 [])) (hn : lines ≠ [] → σ.m.get lb = some (.cells (intsAV lines) false 0 []))
    (s1 : places.Pairwise (· ≤ ·)) (s2 : lines.Pairwise (· ≤ ·)) (l1 : places.length ≤ 900000) (l2 : lines.length ≤ 900000) :
    Tr Tryd.prog 15 [.ptr T 0, .int .i64 (x : Nat)] σ fun v σ' => v = .tuple [.int .i64 ((lineCol lines (firstGe places x)).1 : Nat), .int .i64 ((lineCol lines (firstGe places x)).2 : Nat)] ∧ σ' = σ := by
  refine sk_body (m := 38) Tryd.func15 rfl (by decide) rfl ?_
  have c1 := fun σ' (e : σ' = σ) => f31_tr (σ := σ') (x := x) (b := pb) s1 (by omega) (by rw [e]; exact hp)
  have hnl := firstGe_le places x
  generalize firstGe places x = n at *
  have c2 := fun σ' (e : σ' = σ) => f31_tr (σ := σ') (x := n) (b := lb) s2 (by omega) (by rw [e]; exact hn)
  have hLl := firstGe_le lines n
  unfold lineCol
  by_cases h0 : firstGe lines n = 0
  · rw [if_pos h0]
    rw [h0] at c2
    have e1 : (((0 : Nat) : Int) == 0) = true := rfl
    have e2 : IntKind.wrap .i64 ((n : Int) + 1) = ((n + 1 : Nat) : Int) := wrap_i64 (by omega) (by omega)
    repeat (first
      | refine sk_seq ?_
      | refine sk_region ?_
      | refine sk_ops_nil ?_
      | refine sk_draw_nil ?_
      | refine sk_block ?_
      | refine sk_blk ?_
      | refine sk_skip ?_
      | refine sk_exit rfl ?_
      | refine sk_draw (id := 7) [0, 1, 2, 3, 4, 5, 6, 7, 8, 9, 10, 11, 12, 13] mixed (by kernel_rfl) ?_
      | ((first | (apply sk_r; rfl; rfl) | (apply sk_w; rfl; rfl) | (apply sk_i; rfl) | (apply sk_g; rfl; rfl) | (apply sk_dr; rfl; rfl; rfl) | (apply sk_dg; rfl; rfl; rfl; rfl; rfl) | apply drd_i | (apply sk_dnr (i := 12) (fl := [11, 10, 9, 8, 7, 6, 5, 4, 3, 2]); rfl; rfl; decide +kernel; rfl; rfl) | (apply sk_dnw (i := 12) (fl := [11, 10, 9, 8, 7, 6, 5, 4, 3, 2]); rfl; rfl; decide +kernel; rfl; rfl) | (apply sk_dnr (i := 13) (fl := []); rfl; rfl; decide +kernel; rfl; rfl) | (apply sk_dnw (i := 13) (fl := []); rfl; rfl; decide +kernel; rfl; rfl)); (simp only [go_sem, Nat.reduceLT, Nat.reduceLeDiff, Nat.reduceEqDiff, Nat.reduceAdd, Nat.reduceSub, Nat.reduceMul, reduceIte, reduceCtorEq, hT, e1, e2] <;> rfl); (first | refine sk_id ?_ | refine cs_t ?_ | refine cs_f ?_ | refine gs_t rfl ?_ | refine gs_f rfl ?_ | ((repeat (first | exact trivial | ((first | (apply redos_r; rfl; rfl) | (apply redos_g; rfl; rfl; rfl; rfl)); (simp only [go_sem, Nat.reduceLT, Nat.reduceLeDiff, Nat.reduceEqDiff, Nat.reduceAdd, Nat.reduceSub, Nat.reduceMul, reduceIte, reduceCtorEq, hT, e1, e2] <;> rfl)) | (apply redos_s; rfl; rfl; rfl; (simp only [go_sem, Nat.reduceLT, Nat.reduceLeDiff, Nat.reduceEqDiff, Nat.reduceAdd, Nat.reduceSub, Nat.reduceMul, reduceIte, reduceCtorEq, hT, e1, e2] <;> rfl)))); refine sk_id ?_)))
      | ((first | (apply sk_c; rfl; rfl)); (simp only [go_sem, Nat.reduceLT, Nat.reduceLeDiff, Nat.reduceEqDiff, Nat.reduceAdd, Nat.reduceSub, Nat.reduceMul, reduceIte, reduceCtorEq, hT, e1, e2] <;> rfl); (first
          | (refine (c1 _ rfl).mono ?_; rintro _ τ ⟨rfl, hτ⟩; rw [hτ])
          | (refine (c2 _ rfl).mono ?_; rintro _ τ ⟨rfl, hτ⟩; rw [hτ])); (first | refine sk_id ?_ | (refine ⟨?_, ?_⟩; (repeat (first | exact trivial | ((first | (apply redos_r; rfl; rfl) | (apply redos_g; rfl; rfl; rfl; rfl)); (simp only [go_sem, Nat.reduceLT, Nat.reduceLeDiff, Nat.reduceEqDiff, Nat.reduceAdd, Nat.reduceSub, Nat.reduceMul, reduceIte, reduceCtorEq, hT, e1, e2] <;> rfl)) | (apply redos_s; rfl; rfl; rfl; (simp only [go_sem, Nat.reduceLT, Nat.reduceLeDiff, Nat.reduceEqDiff, Nat.reduceAdd, Nat.reduceSub, Nat.reduceMul, reduceIte, reduceCtorEq, hT, e1, e2] <;> rfl)))); refine sk_id ?_))))
    exact sk_ret ⟨_, (by first | (simp only [aRet, Tryd.results15, aResults, aResult, go_sem, Nat.reduceLT, Nat.reduceLeDiff, Nat.reduceEqDiff, Nat.reduceAdd, Nat.reduceSub, Nat.reduceMul, reduceIte, reduceCtorEq] <;> rfl) | fail), by rfl, rfl⟩
  · rw [if_neg h0]
    obtain ⟨a, ha⟩ := at_some (d := lines) (k := firstGe lines n - 1) (by omega)
    have han := firstGe_lt (x := n) (by omega) ha
    rw [ha]
    generalize hL : firstGe lines n = L at *
    have hne : lines ≠ [] := by intro e; rw [e] at ha; simp at ha
    have gb := hn hne
    have hT2 := hT
    rw [slV_some (n := lines.length) (by omega)] at hT2
    have e1 : ((L : Int) == 0) = false := by simp; omega
    have e2 : IntKind.wrap .i64 ((L : Int) + 1) = ((L + 1 : Nat) : Int) := wrap_i64 (by omega) (by omega)
    have e3 : IntKind.wrap .i64 ((L : Int) - 1) = ((L - 1 : Nat) : Int) := by rw [wrap_i64 (by omega) (by omega)]; omega
    have e4 : (0 : Int) ≤ ((L - 1 : Nat) : Int) := by omega
    have e5 : ((L - 1 : Nat) : Int) < (lines.length : Int) := by omega
    have e6 := intsAV_get ha
    have e7 : IntKind.wrap .i64 ((n : Int) - (a : Int)) = ((n - a : Nat) : Int) := by rw [wrap_i64 (by omega) (by omega)]; omega
    rw [slV_some (n := lines.length) (by omega)] at c2
    repeat (first
      | refine sk_seq ?_
      | refine sk_region ?_
      | refine sk_ops_nil ?_
      | refine sk_draw_nil ?_
      | refine sk_block ?_
      | refine sk_blk ?_
      | refine sk_skip ?_
      | refine sk_exit rfl ?_
      | refine sk_draw (id := 7) [0, 1, 2, 3, 4, 5, 6, 7, 8, 9, 10, 11, 12, 13] mixed (by kernel_rfl) ?_
      | ((first | (apply sk_r; rfl; rfl) | (apply sk_w; rfl; rfl) | (apply sk_i; rfl) | (apply sk_g; rfl; rfl) | (apply sk_dr; rfl; rfl; rfl) | (apply sk_dg; rfl; rfl; rfl; rfl; rfl) | apply drd_i | (apply sk_dnr (i := 12) (fl := [11, 10, 9, 8, 7, 6, 5, 4, 3, 2]); rfl; rfl; decide +kernel; rfl; rfl) | (apply sk_dnw (i := 12) (fl := [11, 10, 9, 8, 7, 6, 5, 4, 3, 2]); rfl; rfl; decide +kernel; rfl; rfl) | (apply sk_dnr (i := 13) (fl := []); rfl; rfl; decide +kernel; rfl; rfl) | (apply sk_dnw (i := 13) (fl := []); rfl; rfl; decide +kernel; rfl; rfl)); (simp only [go_sem, Nat.reduceLT, Nat.reduceLeDiff, Nat.reduceEqDiff, Nat.reduceAdd, Nat.reduceSub, Nat.reduceMul, reduceIte, reduceCtorEq, hT2, e1, e2, e3, e4, e5, e6, e7, gb, and_self] <;> rfl); (first | refine sk_id ?_ | refine cs_t ?_ | refine cs_f ?_ | refine gs_t rfl ?_ | refine gs_f rfl ?_ | ((repeat (first | exact trivial | ((first | (apply redos_r; rfl; rfl) | (apply redos_g; rfl; rfl; rfl; rfl)); (simp only [go_sem, Nat.reduceLT, Nat.reduceLeDiff, Nat.reduceEqDiff, Nat.reduceAdd, Nat.reduceSub, Nat.reduceMul, reduceIte, reduceCtorEq, hT2, e1, e2, e3, e4, e5, e6, e7, gb, and_self] <;> rfl)) | (apply redos_s; rfl; rfl; rfl; (simp only [go_sem, Nat.reduceLT, Nat.reduceLeDiff, Nat.reduceEqDiff, Nat.reduceAdd, Nat.reduceSub, Nat.reduceMul, reduceIte, reduceCtorEq, hT2, e1, e2, e3, e4, e5, e6, e7, gb, and_self] <;> rfl)))); refine sk_id ?_)))
      | ((first | (apply sk_c; rfl; rfl)); (simp only [go_sem, Nat.reduceLT, Nat.reduceLeDiff, Nat.reduceEqDiff, Nat.reduceAdd, Nat.reduceSub, Nat.reduceMul, reduceIte, reduceCtorEq, hT2, e1, e2, e3, e4, e5, e6, e7, gb, and_self] <;> rfl); (first
          | (refine (c1 _ rfl).mono ?_; rintro _ τ ⟨rfl, hτ⟩; rw [hτ])
          | (refine (c2 _ rfl).mono ?_; rintro _ τ ⟨rfl, hτ⟩; rw [hτ])); (first | refine sk_id ?_ | (refine ⟨?_, ?_⟩; (repeat (first | exact trivial | ((first | (apply redos_r; rfl; rfl) | (apply redos_g; rfl; rfl; rfl; rfl)); (simp only [go_sem, Nat.reduceLT, Nat.reduceLeDiff, Nat.reduceEqDiff, Nat.reduceAdd, Nat.reduceSub, Nat.reduceMul, reduceIte, reduceCtorEq, hT2, e1, e2, e3, e4, e5, e6, e7, gb, and_self] <;> rfl)) | (apply redos_s; rfl; rfl; rfl; (simp only [go_sem, Nat.reduceLT, Nat.reduceLeDiff, Nat.reduceEqDiff, Nat.reduceAdd, Nat.reduceSub, Nat.reduceMul, reduceIte, reduceCtorEq, hT2, e1, e2, e3, e4, e5, e6, e7, gb, and_self] <;> rfl)))); refine sk_id ?_))))
    exact sk_ret ⟨_, (by first | (simp only [aRet, Tryd.results15, aResults, aResult, go_sem, Nat.reduceLT, Nat.reduceLeDiff, Nat.reduceEqDiff, Nat.reduceAdd, Nat.reduceSub, Nat.reduceMul, reduceIte, reduceCtorEq] <;> rfl) | fail), by rfl, rfl⟩
end Go.Proofs.YtophnlmdcidolaaDoor
