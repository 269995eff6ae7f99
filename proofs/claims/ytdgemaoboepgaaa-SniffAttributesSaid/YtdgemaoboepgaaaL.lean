import Derived.Test.YtdgemaoboepgaaaJ
import Derived.Test.YtdgemaoboepgaaaK
import Derived.Test.YtdgemaoboepgaaaD
set_option linter.all false
namespace Go.Proofs.Ytdgemaoboepgaaa
open Go Go.Am
set_option maxHeartbeats 8000000

theorem f4_out (k : Int) (d : List Nat) (hk : k < 0 ∨ k > d.length) (σ : AHeap) :
    Tr Try.prog 4 [.str d, .int .i64 k] σ fun v σ' => v = attrAV ([], [], 0, false) ∧ σ' = σ := by
  refine Tr.wf fun hW => Tr.pure ?_
  refine sk_body (m := 102) Try.func4 rfl (by decide) rfl ?_
  have keep : ∀ X b x, σ.m.get b = some x → (σ.push X).m.get b = some x := fun X b x h => by
    have := wf_lt hW h
    rw [get_push, if_neg (by omega)]; exact h
  by_cases h : k < 0
  · have z1 : decide (k < 0) = true := by simp; omega
    repeat (first
      | refine sk_seq ?_
      | refine sk_region ?_
      | refine sk_ops_nil ?_
      | refine sk_draw_nil ?_
      | refine sk_block ?_
      | refine sk_blk ?_
      | refine sk_skip ?_
      | refine sk_exit rfl ?_
      | refine sk_draw (id := 6) [0, 1, 2, 3, 4, 5, 6, 7] mixed (by kernel_rfl) ?_
      | refine sk_draw (id := 13) [0, 1, 2, 3, 4, 5, 6, 7, 8] mixed (by kernel_rfl) ?_
      | refine sk_draw (id := 18) [0, 1, 2, 3, 4, 5, 6, 7, 8, 9] mixed (by kernel_rfl) ?_
      | ((first | (apply sk_r; rfl; rfl) | (apply sk_w; rfl; rfl) | (apply sk_i; rfl) | (apply sk_g; rfl; rfl) | (apply sk_dr; rfl; rfl; rfl) | (apply sk_dg; rfl; rfl; rfl; rfl; rfl) | apply drd_i | (apply sk_dnr (i := 5) (fl := [4, 3, 2, 1]); rfl; rfl; decide +kernel; rfl; rfl) | (apply sk_dnw (i := 5) (fl := [4, 3, 2, 1]); rfl; rfl; decide +kernel; rfl; rfl) | (apply sk_dnr (i := 6) (fl := []); rfl; rfl; decide +kernel; rfl; rfl) | (apply sk_dnw (i := 6) (fl := []); rfl; rfl; decide +kernel; rfl; rfl) | (apply sk_dnr (i := 7) (fl := []); rfl; rfl; decide +kernel; rfl; rfl) | (apply sk_dnw (i := 7) (fl := []); rfl; rfl; decide +kernel; rfl; rfl) | (apply sk_dnr (i := 6) (fl := [5, 4, 3, 2]); rfl; rfl; decide +kernel; rfl; rfl) | (apply sk_dnw (i := 6) (fl := [5, 4, 3, 2]); rfl; rfl; decide +kernel; rfl; rfl) | (apply sk_dnr (i := 7) (fl := []); rfl; rfl; decide +kernel; rfl; rfl) | (apply sk_dnw (i := 7) (fl := []); rfl; rfl; decide +kernel; rfl; rfl) | (apply sk_dnr (i := 8) (fl := []); rfl; rfl; decide +kernel; rfl; rfl) | (apply sk_dnw (i := 8) (fl := []); rfl; rfl; decide +kernel; rfl; rfl) | (apply sk_dnr (i := 7) (fl := [6, 5, 4, 3]); rfl; rfl; decide +kernel; rfl; rfl) | (apply sk_dnw (i := 7) (fl := [6, 5, 4, 3]); rfl; rfl; decide +kernel; rfl; rfl) | (apply sk_dnr (i := 8) (fl := []); rfl; rfl; decide +kernel; rfl; rfl) | (apply sk_dnw (i := 8) (fl := []); rfl; rfl; decide +kernel; rfl; rfl) | (apply sk_dnr (i := 9) (fl := []); rfl; rfl; decide +kernel; rfl; rfl) | (apply sk_dnw (i := 9) (fl := []); rfl; rfl; decide +kernel; rfl; rfl)); (simp only [go_sem, Nat.reduceLT, Nat.reduceLeDiff, Nat.reduceEqDiff, Nat.reduceAdd, Nat.reduceSub, Nat.reduceMul, reduceIte, reduceCtorEq, z1] <;> rfl); (first | refine sk_id ?_ | refine cs_t ?_ | refine cs_f ?_ | refine gs_t rfl ?_ | refine gs_f rfl ?_ | ((repeat (first | exact trivial | ((first | (apply redos_r; rfl; rfl) | (apply redos_g; rfl; rfl; rfl; rfl)); (simp only [go_sem, Nat.reduceLT, Nat.reduceLeDiff, Nat.reduceEqDiff, Nat.reduceAdd, Nat.reduceSub, Nat.reduceMul, reduceIte, reduceCtorEq, z1] <;> rfl)) | (apply redos_s; rfl; rfl; rfl; (simp only [go_sem, Nat.reduceLT, Nat.reduceLeDiff, Nat.reduceEqDiff, Nat.reduceAdd, Nat.reduceSub, Nat.reduceMul, reduceIte, reduceCtorEq, z1] <;> rfl)))); refine sk_id ?_))))
    exact sk_ret ⟨_, (by first | (simp only [aRet, Try.results4, aResults, aResult, go_sem, Nat.reduceLT, Nat.reduceLeDiff, Nat.reduceEqDiff, Nat.reduceAdd, Nat.reduceSub, Nat.reduceMul, reduceIte, reduceCtorEq] <;> rfl) | fail), ⟨rfl, keep _, rfl, rfl⟩⟩
  · have z1 : decide (k < 0) = false := by simp; omega
    have z2 : decide (k > d.length) = true := by simp; omega
    repeat (first
      | refine sk_seq ?_
      | refine sk_region ?_
      | refine sk_ops_nil ?_
      | refine sk_draw_nil ?_
      | refine sk_block ?_
      | refine sk_blk ?_
      | refine sk_skip ?_
      | refine sk_exit rfl ?_
      | refine sk_draw (id := 6) [0, 1, 2, 3, 4, 5, 6, 7] mixed (by kernel_rfl) ?_
      | refine sk_draw (id := 13) [0, 1, 2, 3, 4, 5, 6, 7, 8] mixed (by kernel_rfl) ?_
      | refine sk_draw (id := 18) [0, 1, 2, 3, 4, 5, 6, 7, 8, 9] mixed (by kernel_rfl) ?_
      | ((first | (apply sk_r; rfl; rfl) | (apply sk_w; rfl; rfl) | (apply sk_i; rfl) | (apply sk_g; rfl; rfl) | (apply sk_dr; rfl; rfl; rfl) | (apply sk_dg; rfl; rfl; rfl; rfl; rfl) | apply drd_i | (apply sk_dnr (i := 5) (fl := [4, 3, 2, 1]); rfl; rfl; decide +kernel; rfl; rfl) | (apply sk_dnw (i := 5) (fl := [4, 3, 2, 1]); rfl; rfl; decide +kernel; rfl; rfl) | (apply sk_dnr (i := 6) (fl := []); rfl; rfl; decide +kernel; rfl; rfl) | (apply sk_dnw (i := 6) (fl := []); rfl; rfl; decide +kernel; rfl; rfl) | (apply sk_dnr (i := 7) (fl := []); rfl; rfl; decide +kernel; rfl; rfl) | (apply sk_dnw (i := 7) (fl := []); rfl; rfl; decide +kernel; rfl; rfl) | (apply sk_dnr (i := 6) (fl := [5, 4, 3, 2]); rfl; rfl; decide +kernel; rfl; rfl) | (apply sk_dnw (i := 6) (fl := [5, 4, 3, 2]); rfl; rfl; decide +kernel; rfl; rfl) | (apply sk_dnr (i := 7) (fl := []); rfl; rfl; decide +kernel; rfl; rfl) | (apply sk_dnw (i := 7) (fl := []); rfl; rfl; decide +kernel; rfl; rfl) | (apply sk_dnr (i := 8) (fl := []); rfl; rfl; decide +kernel; rfl; rfl) | (apply sk_dnw (i := 8) (fl := []); rfl; rfl; decide +kernel; rfl; rfl) | (apply sk_dnr (i := 7) (fl := [6, 5, 4, 3]); rfl; rfl; decide +kernel; rfl; rfl) | (apply sk_dnw (i := 7) (fl := [6, 5, 4, 3]); rfl; rfl; decide +kernel; rfl; rfl) | (apply sk_dnr (i := 8) (fl := []); rfl; rfl; decide +kernel; rfl; rfl) | (apply sk_dnw (i := 8) (fl := []); rfl; rfl; decide +kernel; rfl; rfl) | (apply sk_dnr (i := 9) (fl := []); rfl; rfl; decide +kernel; rfl; rfl) | (apply sk_dnw (i := 9) (fl := []); rfl; rfl; decide +kernel; rfl; rfl)); (simp only [go_sem, Nat.reduceLT, Nat.reduceLeDiff, Nat.reduceEqDiff, Nat.reduceAdd, Nat.reduceSub, Nat.reduceMul, reduceIte, reduceCtorEq, z1, z2] <;> rfl); (first | refine sk_id ?_ | refine cs_t ?_ | refine cs_f ?_ | refine gs_t rfl ?_ | refine gs_f rfl ?_ | ((repeat (first | exact trivial | ((first | (apply redos_r; rfl; rfl) | (apply redos_g; rfl; rfl; rfl; rfl)); (simp only [go_sem, Nat.reduceLT, Nat.reduceLeDiff, Nat.reduceEqDiff, Nat.reduceAdd, Nat.reduceSub, Nat.reduceMul, reduceIte, reduceCtorEq, z1, z2] <;> rfl)) | (apply redos_s; rfl; rfl; rfl; (simp only [go_sem, Nat.reduceLT, Nat.reduceLeDiff, Nat.reduceEqDiff, Nat.reduceAdd, Nat.reduceSub, Nat.reduceMul, reduceIte, reduceCtorEq, z1, z2] <;> rfl)))); refine sk_id ?_))))
    exact sk_ret ⟨_, (by first | (simp only [aRet, Try.results4, aResults, aResult, go_sem, Nat.reduceLT, Nat.reduceLeDiff, Nat.reduceEqDiff, Nat.reduceAdd, Nat.reduceSub, Nat.reduceMul, reduceIte, reduceCtorEq] <;> rfl) | fail), ⟨rfl, keep _, rfl, rfl⟩⟩

theorem f5_out (k : Int) (d : List Nat) (hk : k < 0 ∨ k > d.length) (σ : AHeap) :
    Tr Try.prog 5 [.str d, .int .i64 k] σ fun v σ' => v = attrAV4 ([], [], 0, false) ∧ σ' = σ := by
  refine sk_body (m := 210) Try.func5 rfl (by decide) rfl ?_
  by_cases h : k < 0
  · have z1 : decide (k < 0) = true := by simp; omega
    repeat (first
      | refine sk_seq ?_
      | refine sk_region ?_
      | refine sk_ops_nil ?_
      | refine sk_draw_nil ?_
      | refine sk_block ?_
      | refine sk_blk ?_
      | refine sk_skip ?_
      | refine sk_exit rfl ?_
      | refine sk_draw (id := 28) [0, 1, 2, 3, 4, 5, 6] mixed (by kernel_rfl) ?_
      | ((first | (apply sk_r; rfl; rfl) | (apply sk_w; rfl; rfl) | (apply sk_i; rfl) | (apply sk_g; rfl; rfl) | (apply sk_dr; rfl; rfl; rfl) | (apply sk_dg; rfl; rfl; rfl; rfl; rfl) | apply drd_i); (simp only [go_sem, Nat.reduceLT, Nat.reduceLeDiff, Nat.reduceEqDiff, Nat.reduceAdd, Nat.reduceSub, Nat.reduceMul, reduceIte, reduceCtorEq, z1] <;> rfl); (first | refine sk_id ?_ | refine cs_t ?_ | refine cs_f ?_ | refine gs_t rfl ?_ | refine gs_f rfl ?_)))
    exact sk_ret ⟨_, (by first | (simp only [aRet, Try.results5, aResults, aResult, go_sem, Nat.reduceLT, Nat.reduceLeDiff, Nat.reduceEqDiff, Nat.reduceAdd, Nat.reduceSub, Nat.reduceMul, reduceIte, reduceCtorEq] <;> rfl) | fail), by exact ⟨rfl, by trivial⟩⟩
  · have z1 : decide (k < 0) = false := by simp; omega
    have z2 : decide (k > d.length) = true := by simp; omega
    repeat (first
      | refine sk_seq ?_
      | refine sk_region ?_
      | refine sk_ops_nil ?_
      | refine sk_draw_nil ?_
      | refine sk_block ?_
      | refine sk_blk ?_
      | refine sk_skip ?_
      | refine sk_exit rfl ?_
      | refine sk_draw (id := 28) [0, 1, 2, 3, 4, 5, 6] mixed (by kernel_rfl) ?_
      | ((first | (apply sk_r; rfl; rfl) | (apply sk_w; rfl; rfl) | (apply sk_i; rfl) | (apply sk_g; rfl; rfl) | (apply sk_dr; rfl; rfl; rfl) | (apply sk_dg; rfl; rfl; rfl; rfl; rfl) | apply drd_i); (simp only [go_sem, Nat.reduceLT, Nat.reduceLeDiff, Nat.reduceEqDiff, Nat.reduceAdd, Nat.reduceSub, Nat.reduceMul, reduceIte, reduceCtorEq, z1, z2] <;> rfl); (first | refine sk_id ?_ | refine cs_t ?_ | refine cs_f ?_ | refine gs_t rfl ?_ | refine gs_f rfl ?_)))
    exact sk_ret ⟨_, (by first | (simp only [aRet, Try.results5, aResults, aResult, go_sem, Nat.reduceLT, Nat.reduceLeDiff, Nat.reduceEqDiff, Nat.reduceAdd, Nat.reduceSub, Nat.reduceMul, reduceIte, reduceCtorEq] <;> rfl) | fail), by exact ⟨rfl, by trivial⟩⟩

theorem value_end {d : List Nat} {k e : Nat} {s : List Nat} (hk : k ≤ d.length) (h : valueAt d k = some (s, e)) : k ≤ e ∧ e ≤ d.length := by
  unfold valueAt at h
  split at h
  · cases h
  · rename_i q hq
    have hlt : k < d.length := (List.getElem?_eq_some_iff.1 hq).1
    split at h
    · split at h
      · have := run_ge (fun c => !isIn [q] c) d (k + 1)
        cases h
        omega
      · cases h
    · split at h
      · cases h; omega
      · split at h
        · have := run_ge (fun c => !isIn [62, 9, 10, 12, 13, 32] c) d k
          cases h
          omega
        · cases h

theorem attr_end {d : List Nat} {k : Nat} (hk : k ≤ d.length) (h : (attrOf d k).2.2.2 = true) : k < (attrOf d k).2.2.1 ∧ (attrOf d k).2.2.1 ≤ d.length := by
  have h1 := run_ge (isIn [9, 10, 12, 13, 32, 47]) d k
  unfold attrOf at h ⊢
  generalize run (isIn [9, 10, 12, 13, 32, 47]) d k = k1 at *
  split at h
  · cases h
  · rename_i c hc
    try simp only [hc]
    have hlt : k1 < d.length := (List.getElem?_eq_some_iff.1 hc).1
    split at h
    · cases h
    · rename_i h62
      try rw [if_neg h62]
      have h2 := run_ge (fun c => !isIn [61, 47, 62, 9, 10, 12, 13, 32] c) d (k1 + 1)
      rw [show run (fun c => !isIn [61, 47, 62, 9, 10, 12, 13, 32] c) d (k1 + 1) = nameEnd d (k1 + 1) from rfl] at h2
      generalize nameEnd d (k1 + 1) = n at *
      split at h
      · cases h
      · rename_i y hy
        try simp only [hy]
        have hnlt : n < d.length := (List.getElem?_eq_some_iff.1 hy).1
        have h3 := run_ge (isIn [9, 10, 12, 13, 32]) d n
        have h3' : run (isIn [9, 10, 12, 13, 32]) d n ≤ d.length := run_le (by omega)
        rw [show run (isIn [9, 10, 12, 13, 32]) d n = blankEnd d n from rfl] at h3 h3'
        generalize blankEnd d n = k2 at *
        split at h
        · rename_i h61
          try rw [if_pos h61]
          have hk2 : k2 < d.length := (List.getElem?_eq_some_iff.1 h61).1
          have h4 := run_ge (isIn [9, 10, 12, 13, 32]) d (k2 + 1)
          have h4' : run (isIn [9, 10, 12, 13, 32]) d (k2 + 1) ≤ d.length := run_le (by omega)
          rw [show run (isIn [9, 10, 12, 13, 32]) d (k2 + 1) = blankEnd d (k2 + 1) from rfl] at h4 h4'
          generalize blankEnd d (k2 + 1) = k3 at *
          split at h
          · cases h
          · rename_i s e hv
            have := value_end h4' hv
            try simp only [hv]
            omega
        · rename_i h61
          try rw [if_neg h61]
          exact ⟨show k < k2 by omega, show k2 ≤ d.length by omega⟩

/-- at any place, also one that isn't there -/
def attrI (d : List Nat) (k : Int) : List Nat × List Nat × Nat × Bool := if k < 0 ∨ k > d.length then ([], [], 0, false) else attrOf d k.toNat

theorem f4_all (k : Int) (d : List Nat) (hd : ∀ c ∈ d, c < 256) (hl : d.length ≤ 1000000) (σ : AHeap) :
    Tr Try.prog 4 [.str d, .int .i64 k] σ fun v σ' => v = attrAV (attrI d k) ∧ σ' = σ := by
  unfold attrI
  by_cases h : k < 0 ∨ k > d.length
  · rw [if_pos h]; exact f4_out k d h σ
  · rw [if_neg h]
    have := f4_tr k.toNat d hd (by omega) hl σ
    rwa [show ((k.toNat : Nat) : Int) = k by omega] at this
theorem f5_all (k : Int) (d : List Nat) (hd : ∀ c ∈ d, c < 256) (hl : d.length ≤ 1000000) (σ : AHeap) :
    Tr Try.prog 5 [.str d, .int .i64 k] σ fun v σ' => v = attrAV4 (attrI d k) ∧ σ' = σ := by
  unfold attrI
  by_cases h : k < 0 ∨ k > d.length
  · rw [if_pos h]; exact f5_out k d h σ
  · rw [if_neg h]
    have := f5_tr k.toNat d hd (by omega) hl σ
    rwa [show ((k.toNat : Nat) : Int) = k by omega] at this
theorem attrI_end {d : List Nat} {k : Int} (h : (attrI d k).2.2.2 = true) : 0 ≤ k ∧ k.toNat < (attrI d k).2.2.1 ∧ (attrI d k).2.2.1 ≤ d.length := by
  unfold attrI at h ⊢
  split at h
  · cases h
  · rename_i e
    rw [if_neg e]
    exact ⟨by omega, attr_end (by omega) h⟩
end Go.Proofs.Ytdgemaoboepgaaa
namespace Go.Am
variable {P : Program} {n : Nat} {Q : Exit → PT AV → AHeap → Prop} {k : List Item} {fr : PT AV} {σ : AHeap}
/-- one piece of code for itself, then the rest from whatever it leaves -/
theorem sk_join {c : Code} (J : PT AV → AHeap → Prop) (h : SK P n (CutQ P n Q k J) [.code c] .normal fr σ) (hk : ∀ fr σ, J fr σ → SK P n Q k .normal fr σ) :
    SK P n Q (.code c :: k) .normal fr σ := by
  unfold SK at h ⊢
  refine acode_mono h fun e fr' σ' hq => ?_
  unfold SK at hq
  cases e with
  | normal => exact hk _ _ hq
  | _ => exact hq
end Go.Am
namespace Go.Proofs.Ytdgemaoboepgaaa
open Go Go.Am
set_option maxHeartbeats 8000000

theorem beqL_self : ∀ l : List Nat, beqL l l = true
  | [] => by simp [beqL]
  | x :: l => by simp [beqL, beqL_self l]
theorem attr0 : attrI [97, 61, 98, 62] 0 = ([97], [98], 3, true) := by decide +kernel

theorem f3_tr (d : List Nat) (hd : ∀ c ∈ d, c < 256) (k : Int) (σ : AHeap) :
    Tr Try.prog 3 [.str d, .int .i64 k] σ fun v _ => v = .bool true := by
  refine sk_body (m := 79) Try.func3 rfl (by decide) rfl ?_
  repeat (first
    | refine sk_seq ?_
    | refine sk_region ?_
    | refine sk_ops_nil ?_
    | refine sk_block ?_
    | refine sk_blk ?_
    | refine sk_skip ?_
    | refine sk_exit rfl ?_
    | ((first | (apply sk_r; rfl; rfl) | (apply sk_w; rfl; rfl) | (apply sk_i; rfl) | (apply sk_g; rfl; rfl)); (simp only [go_sem, Nat.reduceLT, Nat.reduceLeDiff, Nat.reduceEqDiff, Nat.reduceAdd, Nat.reduceSub, Nat.reduceMul, reduceIte, reduceCtorEq, attr0] <;> rfl); (first | refine sk_id ?_ | refine cs_t ?_ | refine cs_f ?_ | refine gs_t rfl ?_ | refine gs_f rfl ?_))
    | ((first | (apply sk_c; rfl; rfl)); (simp only [go_sem, Nat.reduceLT, Nat.reduceLeDiff, Nat.reduceEqDiff, Nat.reduceAdd, Nat.reduceSub, Nat.reduceMul, reduceIte, reduceCtorEq, attr0] <;> rfl); (first
        | (refine (f4_all 0 [97, 61, 98, 62] (by decide) (by decide) _).mono ?_; rintro _ τ ⟨rfl, hτ⟩; rw [hτ, attr0, attrAV])); refine sk_id ?_))
  refine sk_join (fun fr _ => fget fr 0 = .str (d.take 20000) ∧ fget fr 1 = .int .i64 k) ?_ ?_
  · by_cases h : d.length > 20000
    · have e1 : decide ((d.length : Int) > 20000) = true := by simp; omega
      have e2 : (20000 : Int) ≤ (d.length : Int) := by omega
      repeat (first
        | refine sk_seq ?_
        | refine sk_region ?_
        | refine sk_ops_nil ?_
        | refine sk_block ?_
        | refine sk_blk ?_
        | refine sk_skip ?_
        | refine sk_exit rfl ?_
        | ((first | (apply sk_r; rfl; rfl) | (apply sk_w; rfl; rfl) | (apply sk_i; rfl) | (apply sk_g; rfl; rfl)); (simp only [go_sem, Nat.reduceLT, Nat.reduceLeDiff, Nat.reduceEqDiff, Nat.reduceAdd, Nat.reduceSub, Nat.reduceMul, reduceIte, reduceCtorEq, e1, e2] <;> rfl); (first | refine sk_id ?_ | refine cs_t ?_ | refine cs_f ?_ | refine gs_t rfl ?_ | refine gs_f rfl ?_)))
      exact sk_end ⟨(by first | (simp only [go_sem, Nat.reduceLT, Nat.reduceLeDiff, Nat.reduceEqDiff, Nat.reduceAdd, Nat.reduceSub, Nat.reduceMul, reduceIte, reduceCtorEq] <;> rfl) | fail), (by first | (simp only [go_sem, Nat.reduceLT, Nat.reduceLeDiff, Nat.reduceEqDiff, Nat.reduceAdd, Nat.reduceSub, Nat.reduceMul, reduceIte, reduceCtorEq] <;> rfl) | fail)⟩
    · have e1 : decide ((d.length : Int) > 20000) = false := by simp; omega
      repeat (first
        | refine sk_seq ?_
        | refine sk_region ?_
        | refine sk_ops_nil ?_
        | refine sk_block ?_
        | refine sk_blk ?_
        | refine sk_skip ?_
        | refine sk_exit rfl ?_
        | ((first | (apply sk_r; rfl; rfl) | (apply sk_w; rfl; rfl) | (apply sk_i; rfl) | (apply sk_g; rfl; rfl)); (simp only [go_sem, Nat.reduceLT, Nat.reduceLeDiff, Nat.reduceEqDiff, Nat.reduceAdd, Nat.reduceSub, Nat.reduceMul, reduceIte, reduceCtorEq, e1] <;> rfl); (first | refine sk_id ?_ | refine cs_t ?_ | refine cs_f ?_ | refine gs_t rfl ?_ | refine gs_f rfl ?_)))
      rw [List.take_of_length_le (by omega)]
      exact sk_end ⟨(by first | (simp only [go_sem, Nat.reduceLT, Nat.reduceLeDiff, Nat.reduceEqDiff, Nat.reduceAdd, Nat.reduceSub, Nat.reduceMul, reduceIte, reduceCtorEq] <;> rfl) | fail), (by first | (simp only [go_sem, Nat.reduceLT, Nat.reduceLeDiff, Nat.reduceEqDiff, Nat.reduceAdd, Nat.reduceSub, Nat.reduceMul, reduceIte, reduceCtorEq] <;> rfl) | fail)⟩
  have hd' : ∀ c ∈ d.take 20000, c < 256 := fun c hc => hd c (List.mem_of_mem_take hc)
  have hl' : (d.take 20000).length ≤ 1000000 := by rw [List.length_take]; omega
  generalize d.take 20000 = d' at *
  rintro fr τ2 ⟨h0, h1⟩
  repeat (first
    | refine sk_seq ?_
    | refine sk_region ?_
    | refine sk_ops_nil ?_
    | refine sk_block ?_
    | refine sk_blk ?_
    | refine sk_skip ?_
    | refine sk_exit rfl ?_
    | ((first | (apply sk_r; rfl; rfl) | (apply sk_w; rfl; rfl) | (apply sk_i; rfl) | (apply sk_g; rfl; rfl)); (simp only [go_sem, Nat.reduceLT, Nat.reduceLeDiff, Nat.reduceEqDiff, Nat.reduceAdd, Nat.reduceSub, Nat.reduceMul, reduceIte, reduceCtorEq, h0, h1] <;> rfl); (first | refine sk_id ?_ | refine cs_t ?_ | refine cs_f ?_ | refine gs_t rfl ?_ | refine gs_f rfl ?_)))
  refine sk_loop (fun m fr _ => ∃ j : Int, m = d'.length - j.toNat ∧ fget fr 0 = .str d' ∧ fget fr 1 = .int .i64 j) _ ⟨k, rfl, h0, h1⟩ ?_
  rintro _ fr τ3 ⟨j, rfl, h0, h1⟩
  have hend := attrI_end (d := d') (k := j)
  have s4 := fun σ => f4_all j d' hd' hl' σ
  have s5 := fun σ => f5_all j d' hd' hl' σ
  generalize attrI d' j = r at hend s4 s5
  obtain ⟨nm, vl, e, ok⟩ := r
  have q1 : beqL nm nm = true := beqL_self nm
  have q2 : beqL vl vl = true := beqL_self vl
  have q3 : ((e : Int) != (e : Int)) = false := by simp
  cases ok
  · have q4 : (false != false) = false := rfl
    repeat (first
      | refine sk_seq ?_
      | refine sk_region ?_
      | refine sk_ops_nil ?_
      | refine sk_block ?_
      | refine sk_blk ?_
      | refine sk_skip ?_
      | refine sk_exit rfl ?_
      | ((first | (apply sk_r; rfl; rfl) | (apply sk_w; rfl; rfl) | (apply sk_i; rfl) | (apply sk_g; rfl; rfl)); (simp only [go_sem, Nat.reduceLT, Nat.reduceLeDiff, Nat.reduceEqDiff, Nat.reduceAdd, Nat.reduceSub, Nat.reduceMul, reduceIte, reduceCtorEq, h0, h1, q1, q2, q3, q4, Bool.not_true, Bool.not_false] <;> rfl); (first | refine sk_id ?_ | refine cs_t ?_ | refine cs_f ?_ | refine gs_t rfl ?_ | refine gs_f rfl ?_))
      | ((first | (apply sk_c; rfl; rfl)); (simp only [go_sem, Nat.reduceLT, Nat.reduceLeDiff, Nat.reduceEqDiff, Nat.reduceAdd, Nat.reduceSub, Nat.reduceMul, reduceIte, reduceCtorEq, h0, h1, q1, q2, q3, q4, Bool.not_true, Bool.not_false] <;> rfl); (first
          | (refine (s4 _).mono ?_; rintro _ τ ⟨rfl, hτ⟩; rw [hτ, attrAV])
          | (refine (s5 _).mono ?_; rintro _ τ ⟨rfl, hτ⟩; rw [hτ, attrAV4])); refine sk_id ?_))
    exact sk_ret ⟨_, (by first | (simp only [aRet, Try.results3, aResults, aResult, go_sem, Nat.reduceLT, Nat.reduceLeDiff, Nat.reduceEqDiff, Nat.reduceAdd, Nat.reduceSub, Nat.reduceMul, reduceIte, reduceCtorEq] <;> rfl) | fail), by rfl⟩
  · have q4 : (true != true) = false := rfl
    have hj := hend rfl
    simp only at hj
    repeat (first
      | refine sk_seq ?_
      | refine sk_region ?_
      | refine sk_ops_nil ?_
      | refine sk_block ?_
      | refine sk_blk ?_
      | refine sk_skip ?_
      | refine sk_exit rfl ?_
      | ((first | (apply sk_r; rfl; rfl) | (apply sk_w; rfl; rfl) | (apply sk_i; rfl) | (apply sk_g; rfl; rfl)); (simp only [go_sem, Nat.reduceLT, Nat.reduceLeDiff, Nat.reduceEqDiff, Nat.reduceAdd, Nat.reduceSub, Nat.reduceMul, reduceIte, reduceCtorEq, h0, h1, q1, q2, q3, q4, Bool.not_true, Bool.not_false] <;> rfl); (first | refine sk_id ?_ | refine cs_t ?_ | refine cs_f ?_ | refine gs_t rfl ?_ | refine gs_f rfl ?_))
      | ((first | (apply sk_c; rfl; rfl)); (simp only [go_sem, Nat.reduceLT, Nat.reduceLeDiff, Nat.reduceEqDiff, Nat.reduceAdd, Nat.reduceSub, Nat.reduceMul, reduceIte, reduceCtorEq, h0, h1, q1, q2, q3, q4, Bool.not_true, Bool.not_false] <;> rfl); (first
          | (refine (s4 _).mono ?_; rintro _ τ ⟨rfl, hτ⟩; rw [hτ, attrAV])
          | (refine (s5 _).mono ?_; rintro _ τ ⟨rfl, hτ⟩; rw [hτ, attrAV4])); refine sk_id ?_))
    exact sk_stop ⟨d'.length - e, by omega, e, by omega, (by first | (simp only [go_sem, Nat.reduceLT, Nat.reduceLeDiff, Nat.reduceEqDiff, Nat.reduceAdd, Nat.reduceSub, Nat.reduceMul, reduceIte, reduceCtorEq, h0] <;> rfl) | fail), (by first | (simp only [go_sem, Nat.reduceLT, Nat.reduceLeDiff, Nat.reduceEqDiff, Nat.reduceAdd, Nat.reduceSub, Nat.reduceMul, reduceIte, reduceCtorEq] <;> rfl) | fail)⟩
end Go.Proofs.Ytdgemaoboepgaaa
