import Derived.Test.YtophnlmdcidolaaDoorJ
import Derived.Test.YtophnlmdcidolaaDoorJ2
set_option linter.all false
namespace Go.Proofs.YtophnlmdcidolaaDoor
open Go Go.Am
set_option maxHeartbeats 8000000
set_option maxRecDepth 100000

theorem f49_out (k : Int) (d : List Nat) (hk : k < 0 ∨ k > d.length) (σ : AHeap) :
    Tr Tryd.prog 49 [.str d, .int .i64 k] σ fun v σ' => v = attrAV ([], [], 0, false) ∧ σ' = σ := by
  refine Tr.wf fun hW => Tr.pure ?_
  refine sk_body (m := 102) Tryd.func49 rfl (by decide) rfl ?_
  have keep : ∀ X b x, σ.m.get b = some x → (σ.push X).m.get b = some x := fun X b x h => by
    have := wf_lt hW h
    rw [get_push, if_neg (by omega)]; exact h
  by_cases h : k < 0
  · have z1 : decide (k < 0) = true := by simp; omega
    repeat (first
      | refine sk_seq ?_
      | refine sk_region ?_
      | refine sk_ops_nil ?_
      | refine sk_draw_nil ?_
      | refine sk_block ?_
      | refine sk_blk ?_
      | refine sk_skip ?_
      | refine sk_exit rfl ?_
      | refine sk_draw (id := 6) [0, 1, 2, 3, 4, 5, 6, 7] mixed (by kernel_rfl) ?_
      | refine sk_draw (id := 13) [0, 1, 2, 3, 4, 5, 6, 7, 8] mixed (by kernel_rfl) ?_
      | refine sk_draw (id := 18) [0, 1, 2, 3, 4, 5, 6, 7, 8, 9] mixed (by kernel_rfl) ?_
      | ((first | (apply sk_r; rfl; rfl) | (apply sk_w; rfl; rfl) | (apply sk_i; rfl) | (apply sk_g; rfl; rfl) | (apply sk_dr; rfl; rfl; rfl) | (apply sk_dg; rfl; rfl; rfl; rfl; rfl) | apply drd_i | (apply sk_dnr (i := 5) (fl := [4, 3, 2, 1]); rfl; rfl; decide +kernel; rfl; rfl) | (apply sk_dnw (i := 5) (fl := [4, 3, 2, 1]); rfl; rfl; decide +kernel; rfl; rfl) | (apply sk_dnr (i := 6) (fl := []); rfl; rfl; decide +kernel; rfl; rfl) | (apply sk_dnw (i := 6) (fl := []); rfl; rfl; decide +kernel; rfl; rfl) | (apply sk_dnr (i := 7) (fl := []); rfl; rfl; decide +kernel; rfl; rfl) | (apply sk_dnw (i := 7) (fl := []); rfl; rfl; decide +kernel; rfl; rfl) | (apply sk_dnr (i := 6) (fl := [5, 4, 3, 2]); rfl; rfl; decide +kernel; rfl; rfl) | (apply sk_dnw (i := 6) (fl := [5, 4, 3, 2]); rfl; rfl; decide +kernel; rfl; rfl) | (apply sk_dnr (i := 7) (fl := []); rfl; rfl; decide +kernel; rfl; rfl) | (apply sk_dnw (i := 7) (fl := []); rfl; rfl; decide +kernel; rfl; rfl) | (apply sk_dnr (i := 8) (fl := []); rfl; rfl; decide +kernel; rfl; rfl) | (apply sk_dnw (i := 8) (fl := []); rfl; rfl; decide +kernel; rfl; rfl) | (apply sk_dnr (i := 7) (fl := [6, 5, 4, 3]); rfl; rfl; decide +kernel; rfl; rfl) | (apply sk_dnw (i := 7) (fl := [6, 5, 4, 3]); rfl; rfl; decide +kernel; rfl; rfl) | (apply sk_dnr (i := 8) (fl := []); rfl; rfl; decide +kernel; rfl; rfl) | (apply sk_dnw (i := 8) (fl := []); rfl; rfl; decide +kernel; rfl; rfl) | (apply sk_dnr (i := 9) (fl := []); rfl; rfl; decide +kernel; rfl; rfl) | (apply sk_dnw (i := 9) (fl := []); rfl; rfl; decide +kernel; rfl; rfl)); (simp only [go_sem, Nat.reduceLT, Nat.reduceLeDiff, Nat.reduceEqDiff, Nat.reduceAdd, Nat.reduceSub, Nat.reduceMul, reduceIte, reduceCtorEq, z1] <;> rfl); (first | refine sk_id ?_ | refine cs_t ?_ | refine cs_f ?_ | refine gs_t rfl ?_ | refine gs_f rfl ?_ | ((repeat (first | exact trivial | ((first | (apply redos_r; rfl; rfl) | (apply redos_g; rfl; rfl; rfl; rfl)); (simp only [go_sem, Nat.reduceLT, Nat.reduceLeDiff, Nat.reduceEqDiff, Nat.reduceAdd, Nat.reduceSub, Nat.reduceMul, reduceIte, reduceCtorEq, z1] <;> rfl)) | (apply redos_s; rfl; rfl; rfl; (simp only [go_sem, Nat.reduceLT, Nat.reduceLeDiff, Nat.reduceEqDiff, Nat.reduceAdd, Nat.reduceSub, Nat.reduceMul, reduceIte, reduceCtorEq, z1] <;> rfl)))); refine sk_id ?_))))
    exact sk_ret ⟨_, (by first | (simp only [aRet, Tryd.results49, aResults, aResult, go_sem, Nat.reduceLT, Nat.reduceLeDiff, Nat.reduceEqDiff, Nat.reduceAdd, Nat.reduceSub, Nat.reduceMul, reduceIte, reduceCtorEq] <;> rfl) | fail), ⟨rfl, keep _, rfl, rfl⟩⟩
  · have z1 : decide (k < 0) = false := by simp; omega
    have z2 : decide (k > d.length) = true := by simp; omega
    repeat (first
      | refine sk_seq ?_
      | refine sk_region ?_
      | refine sk_ops_nil ?_
      | refine sk_draw_nil ?_
      | refine sk_block ?_
      | refine sk_blk ?_
      | refine sk_skip ?_
      | refine sk_exit rfl ?_
      | refine sk_draw (id := 6) [0, 1, 2, 3, 4, 5, 6, 7] mixed (by kernel_rfl) ?_
      | refine sk_draw (id := 13) [0, 1, 2, 3, 4, 5, 6, 7, 8] mixed (by kernel_rfl) ?_
      | refine sk_draw (id := 18) [0, 1, 2, 3, 4, 5, 6, 7, 8, 9] mixed (by kernel_rfl) ?_
      | ((first | (apply sk_r; rfl; rfl) | (apply sk_w; rfl; rfl) | (apply sk_i; rfl) | (apply sk_g; rfl; rfl) | (apply sk_dr; rfl; rfl; rfl) | (apply sk_dg; rfl; rfl; rfl; rfl; rfl) | apply drd_i | (apply sk_dnr (i := 5) (fl := [4, 3, 2, 1]); rfl; rfl; decide +kernel; rfl; rfl) | (apply sk_dnw (i := 5) (fl := [4, 3, 2, 1]); rfl; rfl; decide +kernel; rfl; rfl) | (apply sk_dnr (i := 6) (fl := []); rfl; rfl; decide +kernel; rfl; rfl) | (apply sk_dnw (i := 6) (fl := []); rfl; rfl; decide +kernel; rfl; rfl) | (apply sk_dnr (i := 7) (fl := []); rfl; rfl; decide +kernel; rfl; rfl) | (apply sk_dnw (i := 7) (fl := []); rfl; rfl; decide +kernel; rfl; rfl) | (apply sk_dnr (i := 6) (fl := [5, 4, 3, 2]); rfl; rfl; decide +kernel; rfl; rfl) | (apply sk_dnw (i := 6) (fl := [5, 4, 3, 2]); rfl; rfl; decide +kernel; rfl; rfl) | (apply sk_dnr (i := 7) (fl := []); rfl; rfl; decide +kernel; rfl; rfl) | (apply sk_dnw (i := 7) (fl := []); rfl; rfl; decide +kernel; rfl; rfl) | (apply sk_dnr (i := 8) (fl := []); rfl; rfl; decide +kernel; rfl; rfl) | (apply sk_dnw (i := 8) (fl := []); rfl; rfl; decide +kernel; rfl; rfl) | (apply sk_dnr (i := 7) (fl := [6, 5, 4, 3]); rfl; rfl; decide +kernel; rfl; rfl) | (apply sk_dnw (i := 7) (fl := [6, 5, 4, 3]); rfl; rfl; decide +kernel; rfl; rfl) | (apply sk_dnr (i := 8) (fl := []); rfl; rfl; decide +kernel; rfl; rfl) | (apply sk_dnw (i := 8) (fl := []); rfl; rfl; decide +kernel; rfl; rfl) | (apply sk_dnr (i := 9) (fl := []); rfl; rfl; decide +kernel; rfl; rfl) | (apply sk_dnw (i := 9) (fl := []); rfl; rfl; decide +kernel; rfl; rfl)); (simp only [go_sem, Nat.reduceLT, Nat.reduceLeDiff, Nat.reduceEqDiff, Nat.reduceAdd, Nat.reduceSub, Nat.reduceMul, reduceIte, reduceCtorEq, z1, z2] <;> rfl); (first | refine sk_id ?_ | refine cs_t ?_ | refine cs_f ?_ | refine gs_t rfl ?_ | refine gs_f rfl ?_ | ((repeat (first | exact trivial | ((first | (apply redos_r; rfl; rfl) | (apply redos_g; rfl; rfl; rfl; rfl)); (simp only [go_sem, Nat.reduceLT, Nat.reduceLeDiff, Nat.reduceEqDiff, Nat.reduceAdd, Nat.reduceSub, Nat.reduceMul, reduceIte, reduceCtorEq, z1, z2] <;> rfl)) | (apply redos_s; rfl; rfl; rfl; (simp only [go_sem, Nat.reduceLT, Nat.reduceLeDiff, Nat.reduceEqDiff, Nat.reduceAdd, Nat.reduceSub, Nat.reduceMul, reduceIte, reduceCtorEq, z1, z2] <;> rfl)))); refine sk_id ?_))))
    exact sk_ret ⟨_, (by first | (simp only [aRet, Tryd.results49, aResults, aResult, go_sem, Nat.reduceLT, Nat.reduceLeDiff, Nat.reduceEqDiff, Nat.reduceAdd, Nat.reduceSub, Nat.reduceMul, reduceIte, reduceCtorEq] <;> rfl) | fail), ⟨rfl, keep _, rfl, rfl⟩⟩

theorem f23_out (k : Int) (d : List Nat) (hk : k < 0 ∨ k > d.length) (σ : AHeap) :
    Tr Tryd.prog 23 [.str d, .int .i64 k] σ fun v σ' => v = attrAV4 ([], [], 0, false) ∧ σ' = σ := by
  refine sk_body (m := 210) Tryd.func23 rfl (by decide) rfl ?_
  by_cases h : k < 0
  · have z1 : decide (k < 0) = true := by simp; omega
    repeat (first
      | refine sk_seq ?_
      | refine sk_region ?_
      | refine sk_ops_nil ?_
      | refine sk_draw_nil ?_
      | refine sk_block ?_
      | refine sk_blk ?_
      | refine sk_skip ?_
      | refine sk_exit rfl ?_
      | refine sk_draw (id := 28) [0, 1, 2, 3, 4, 5, 6] mixed (by kernel_rfl) ?_
      | ((first | (apply sk_r; rfl; rfl) | (apply sk_w; rfl; rfl) | (apply sk_i; rfl) | (apply sk_g; rfl; rfl) | (apply sk_dr; rfl; rfl; rfl) | (apply sk_dg; rfl; rfl; rfl; rfl; rfl) | apply drd_i); (simp only [go_sem, Nat.reduceLT, Nat.reduceLeDiff, Nat.reduceEqDiff, Nat.reduceAdd, Nat.reduceSub, Nat.reduceMul, reduceIte, reduceCtorEq, z1] <;> rfl); (first | refine sk_id ?_ | refine cs_t ?_ | refine cs_f ?_ | refine gs_t rfl ?_ | refine gs_f rfl ?_)))
    exact sk_ret ⟨_, (by first | (simp only [aRet, Tryd.results23, aResults, aResult, go_sem, Nat.reduceLT, Nat.reduceLeDiff, Nat.reduceEqDiff, Nat.reduceAdd, Nat.reduceSub, Nat.reduceMul, reduceIte, reduceCtorEq] <;> rfl) | fail), by exact ⟨rfl, by trivial⟩⟩
  · have z1 : decide (k < 0) = false := by simp; omega
    have z2 : decide (k > d.length) = true := by simp; omega
    repeat (first
      | refine sk_seq ?_
      | refine sk_region ?_
      | refine sk_ops_nil ?_
      | refine sk_draw_nil ?_
      | refine sk_block ?_
      | refine sk_blk ?_
      | refine sk_skip ?_
      | refine sk_exit rfl ?_
      | refine sk_draw (id := 28) [0, 1, 2, 3, 4, 5, 6] mixed (by kernel_rfl) ?_
      | ((first | (apply sk_r; rfl; rfl) | (apply sk_w; rfl; rfl) | (apply sk_i; rfl) | (apply sk_g; rfl; rfl) | (apply sk_dr; rfl; rfl; rfl) | (apply sk_dg; rfl; rfl; rfl; rfl; rfl) | apply drd_i); (simp only [go_sem, Nat.reduceLT, Nat.reduceLeDiff, Nat.reduceEqDiff, Nat.reduceAdd, Nat.reduceSub, Nat.reduceMul, reduceIte, reduceCtorEq, z1, z2] <;> rfl); (first | refine sk_id ?_ | refine cs_t ?_ | refine cs_f ?_ | refine gs_t rfl ?_ | refine gs_f rfl ?_)))
    exact sk_ret ⟨_, (by first | (simp only [aRet, Tryd.results23, aResults, aResult, go_sem, Nat.reduceLT, Nat.reduceLeDiff, Nat.reduceEqDiff, Nat.reduceAdd, Nat.reduceSub, Nat.reduceMul, reduceIte, reduceCtorEq] <;> rfl) | fail), by exact ⟨rfl, by trivial⟩⟩

theorem value_end {d : List Nat} {k e : Nat} {s : List Nat} (hk : k ≤ d.length) (h : valueAt d k = some (s, e)) : k ≤ e ∧ e ≤ d.length := by
  unfold valueAt at h
  split at h
  · cases h
  · rename_i q hq
    have hlt : k < d.length := (List.getElem?_eq_some_iff.1 hq).1
    split at h
    · split at h
      · have := run_ge (fun c => !isIn [q] c) d (k + 1)
        cases h
        omega
      · cases h
    · split at h
      · cases h; omega
      · split at h
        · have := run_ge (fun c => !isIn [62, 9, 10, 12, 13, 32] c) d k
          cases h
          omega
        · cases h

theorem attr_end {d : List Nat} {k : Nat} (hk : k ≤ d.length) (h : (attrOf d k).2.2.2 = true) : k < (attrOf d k).2.2.1 ∧ (attrOf d k).2.2.1 ≤ d.length := by
  have h1 := run_ge (isIn [9, 10, 12, 13, 32, 47]) d k
  unfold attrOf at h ⊢
  generalize run (isIn [9, 10, 12, 13, 32, 47]) d k = k1 at *
  split at h
  · cases h
  · rename_i c hc
    try simp only [hc]
    have hlt : k1 < d.length := (List.getElem?_eq_some_iff.1 hc).1
    split at h
    · cases h
    · rename_i h62
      try rw [if_neg h62]
      have h2 := run_ge (fun c => !isIn [61, 47, 62, 9, 10, 12, 13, 32] c) d (k1 + 1)
      rw [show run (fun c => !isIn [61, 47, 62, 9, 10, 12, 13, 32] c) d (k1 + 1) = nameEnd d (k1 + 1) from rfl] at h2
      generalize nameEnd d (k1 + 1) = n at *
      split at h
      · cases h
      · rename_i y hy
        try simp only [hy]
        have hnlt : n < d.length := (List.getElem?_eq_some_iff.1 hy).1
        have h3 := run_ge (isIn [9, 10, 12, 13, 32]) d n
        have h3' : run (isIn [9, 10, 12, 13, 32]) d n ≤ d.length := run_le (by omega)
        rw [show run (isIn [9, 10, 12, 13, 32]) d n = blankEnd d n from rfl] at h3 h3'
        generalize blankEnd d n = k2 at *
        split at h
        · rename_i h61
          try rw [if_pos h61]
          have hk2 : k2 < d.length := (List.getElem?_eq_some_iff.1 h61).1
          have h4 := run_ge (isIn [9, 10, 12, 13, 32]) d (k2 + 1)
          have h4' : run (isIn [9, 10, 12, 13, 32]) d (k2 + 1) ≤ d.length := run_le (by omega)
          rw [show run (isIn [9, 10, 12, 13, 32]) d (k2 + 1) = blankEnd d (k2 + 1) from rfl] at h4 h4'
          generalize blankEnd d (k2 + 1) = k3 at *
          split at h
          · cases h
          · rename_i s e hv
            have := value_end h4' hv
            try simp only [hv]
            omega
        · rename_i h61
          try rw [if_neg h61]
          exact ⟨show k < k2 by omega, show k2 ≤ d.length by omega⟩

/-- at any place, also one that isn't there -/
def attrI (d : List Nat) (k : Int) : List Nat × List Nat × Nat × Bool := if k < 0 ∨ k > d.length then ([], [], 0, false) else attrOf d k.toNat

theorem f49_all (k : Int) (d : List Nat) (hd : ∀ c ∈ d, c < 256) (hl : d.length ≤ 1000000) (σ : AHeap) :
    Tr Tryd.prog 49 [.str d, .int .i64 k] σ fun v σ' => v = attrAV (attrI d k) ∧ σ' = σ := by
  unfold attrI
  by_cases h : k < 0 ∨ k > d.length
  · rw [if_pos h]; exact f49_out k d h σ
  · rw [if_neg h]
    have := f49_tr k.toNat d hd (by omega) hl σ
    rwa [show ((k.toNat : Nat) : Int) = k by omega] at this
theorem f23_all (k : Int) (d : List Nat) (hd : ∀ c ∈ d, c < 256) (hl : d.length ≤ 1000000) (σ : AHeap) :
    Tr Tryd.prog 23 [.str d, .int .i64 k] σ fun v σ' => v = attrAV4 (attrI d k) ∧ σ' = σ := by
  unfold attrI
  by_cases h : k < 0 ∨ k > d.length
  · rw [if_pos h]; exact f23_out k d h σ
  · rw [if_neg h]
    have := f23_tr k.toNat d hd (by omega) hl σ
    rwa [show ((k.toNat : Nat) : Int) = k by omega] at this
theorem attrI_end {d : List Nat} {k : Int} (h : (attrI d k).2.2.2 = true) : 0 ≤ k ∧ k.toNat < (attrI d k).2.2.1 ∧ (attrI d k).2.2.1 ≤ d.length := by
  unfold attrI at h ⊢
  split at h
  · cases h
  · rename_i e
    rw [if_neg e]
    exact ⟨by omega, attr_end (by omega) h⟩
end Go.Proofs.YtophnlmdcidolaaDoor
