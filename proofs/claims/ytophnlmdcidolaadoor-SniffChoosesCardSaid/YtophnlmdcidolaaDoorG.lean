import Derived.Test.YtophnlmdcidolaaDoorF
import Derived.Test.YtophnlmdcidolaaDoorC24
import Derived.Test.YtophnlmdcidolaaDoorD
set_option linter.all false
namespace Go.Proofs.YtophnlmdcidolaaDoor
open Go Go.Am

theorem f83_tr (l : List Nat) (c : Nat) (hc : c < 256) (σ : AHeap) : Tr Tryd.prog 83 [.str l, .int .u8 c] σ fun v σ' => v = .int .i64 (idx l c) ∧ σ' = σ :=
  tr_indexByteString Tryd.func83 (by decide) rfl (by kernel_rfl) (by kernel_rfl) hc

theorem f66_tr (l : List Nat) (c : Nat) (hc : c < 256) (σ : AHeap) : Tr Tryd.prog 66 [.str l, .int .u8 c] σ fun v σ' => v = .int .i64 (idx l c) ∧ σ' = σ := by
  refine sk_body (m := 8) Tryd.func66 rfl (by decide) rfl ?_
  repeat (first
    | refine sk_seq ?_
    | refine sk_region ?_
    | refine sk_ops_nil ?_
    | refine sk_block ?_
    | refine sk_blk ?_
    | refine sk_skip ?_
    | refine sk_exit rfl ?_
    | ((first | (apply sk_r; rfl; rfl) | (apply sk_w; rfl; rfl) | (apply sk_i; rfl) | (apply sk_g; rfl; rfl)); (simp only [go_sem, Nat.reduceLT, Nat.reduceLeDiff, Nat.reduceEqDiff, Nat.reduceAdd, Nat.reduceSub, Nat.reduceMul, reduceIte, reduceCtorEq] <;> rfl); (first | refine sk_id ?_ | refine cs_t ?_ | refine cs_f ?_ | refine gs_t rfl ?_ | refine gs_f rfl ?_))
    | ((first | (apply sk_c; rfl; rfl)); (simp only [go_sem, Nat.reduceLT, Nat.reduceLeDiff, Nat.reduceEqDiff, Nat.reduceAdd, Nat.reduceSub, Nat.reduceMul, reduceIte, reduceCtorEq] <;> rfl); (first
        | (refine (f83_tr _ _ hc _).mono ?_; rintro _ _ ⟨rfl, rfl⟩)); refine sk_id ?_))
  exact sk_ret ⟨_, (by first | (simp only [aRet, Tryd.results66, aResults, aResult, go_sem, Nat.reduceLT, Nat.reduceLeDiff, Nat.reduceEqDiff, Nat.reduceAdd, Nat.reduceSub, Nat.reduceMul, reduceIte, reduceCtorEq] <;> rfl) | fail), rfl, rfl⟩

theorem f48_tr (l : List Nat) (c : Nat) (hc : c < 256) (σ : AHeap) : Tr Tryd.prog 48 [.str l, .int .u8 c] σ fun v σ' => v = .int .i64 (idx l c) ∧ σ' = σ := by
  refine sk_body (m := 8) Tryd.func48 rfl (by decide) rfl ?_
  repeat (first
    | refine sk_seq ?_
    | refine sk_region ?_
    | refine sk_ops_nil ?_
    | refine sk_block ?_
    | refine sk_blk ?_
    | refine sk_skip ?_
    | refine sk_exit rfl ?_
    | ((first | (apply sk_r; rfl; rfl) | (apply sk_w; rfl; rfl) | (apply sk_i; rfl) | (apply sk_g; rfl; rfl)); (simp only [go_sem, Nat.reduceLT, Nat.reduceLeDiff, Nat.reduceEqDiff, Nat.reduceAdd, Nat.reduceSub, Nat.reduceMul, reduceIte, reduceCtorEq] <;> rfl); (first | refine sk_id ?_ | refine cs_t ?_ | refine cs_f ?_ | refine gs_t rfl ?_ | refine gs_f rfl ?_))
    | ((first | (apply sk_c; rfl; rfl)); (simp only [go_sem, Nat.reduceLT, Nat.reduceLeDiff, Nat.reduceEqDiff, Nat.reduceAdd, Nat.reduceSub, Nat.reduceMul, reduceIte, reduceCtorEq] <;> rfl); (first
        | (refine (f66_tr _ _ hc _).mono ?_; rintro _ _ ⟨rfl, rfl⟩)); refine sk_id ?_))
  exact sk_ret ⟨_, (by first | (simp only [aRet, Tryd.results48, aResults, aResult, go_sem, Nat.reduceLT, Nat.reduceLeDiff, Nat.reduceEqDiff, Nat.reduceAdd, Nat.reduceSub, Nat.reduceMul, reduceIte, reduceCtorEq] <;> rfl) | fail), rfl, rfl⟩

theorem f68_tr (σ : AHeap) (b : Nat) (d : List Nat) (at_ : Int) (ro : Bool) (fz : Nat) (ps : List Nat) (hb : σ.m.get b = some (.cells [.str d, .int .i64 at_] ro fz ps)) :
    Tr Tryd.prog 68 [.ptr b 0] σ fun v σ' => v = .bool (decide (at_ ≥ d.length)) ∧ σ' = σ := by
  refine sk_body (m := 13) Tryd.func68 rfl (by decide) rfl ?_
  repeat (first
    | refine sk_seq ?_
    | refine sk_region ?_
    | refine sk_ops_nil ?_
    | refine sk_draw_nil ?_
    | refine sk_block ?_
    | refine sk_blk ?_
    | refine sk_skip ?_
    | refine sk_exit rfl ?_
    | refine sk_draw (id := 1) [0, 1, 2, 3, 4, 5, 6, 7, 8, 9, 10] mixed (by kernel_rfl) ?_
    | ((first | (apply sk_r; rfl; rfl) | (apply sk_w; rfl; rfl) | (apply sk_i; rfl) | (apply sk_g; rfl; rfl) | (apply sk_dr; rfl; rfl; rfl) | (apply sk_dg; rfl; rfl; rfl; rfl; rfl) | apply drd_i | (apply sk_dnr (i := 10) (fl := []); rfl; rfl; decide +kernel; rfl; rfl) | (apply sk_dnw (i := 10) (fl := []); rfl; rfl; decide +kernel; rfl; rfl)); (simp only [go_sem, Nat.reduceLT, Nat.reduceLeDiff, Nat.reduceEqDiff, Nat.reduceAdd, Nat.reduceSub, Nat.reduceMul, reduceIte, reduceCtorEq, hb] <;> rfl); (first | refine sk_id ?_ | refine cs_t ?_ | refine cs_f ?_ | refine gs_t rfl ?_ | refine gs_f rfl ?_ | ((repeat (first | exact trivial | ((first | (apply redos_r; rfl; rfl) | (apply redos_g; rfl; rfl; rfl; rfl)); (simp only [go_sem, Nat.reduceLT, Nat.reduceLeDiff, Nat.reduceEqDiff, Nat.reduceAdd, Nat.reduceSub, Nat.reduceMul, reduceIte, reduceCtorEq, hb] <;> rfl)) | (apply redos_s; rfl; rfl; rfl; (simp only [go_sem, Nat.reduceLT, Nat.reduceLeDiff, Nat.reduceEqDiff, Nat.reduceAdd, Nat.reduceSub, Nat.reduceMul, reduceIte, reduceCtorEq, hb] <;> rfl)))); refine sk_id ?_))))
  exact sk_ret ⟨_, (by first | (simp only [aRet, Tryd.results68, aResults, aResult, go_sem, Nat.reduceLT, Nat.reduceLeDiff, Nat.reduceEqDiff, Nat.reduceAdd, Nat.reduceSub, Nat.reduceMul, reduceIte, reduceCtorEq] <;> rfl) | fail), rfl, rfl⟩

theorem f33_tr (c : Nat) (hc : c < 256) (σ : AHeap) : Tr Tryd.prog 33 [.int .u8 c] σ fun v σ' => v = .bool (decide (idx [9, 10, 12, 13, 32] c ≥ 0)) ∧ σ' = σ := by
  refine sk_body (m := 6) Tryd.func33 rfl (by decide) rfl ?_
  repeat (first
    | refine sk_seq ?_
    | refine sk_region ?_
    | refine sk_ops_nil ?_
    | refine sk_block ?_
    | refine sk_blk ?_
    | refine sk_skip ?_
    | refine sk_exit rfl ?_
    | ((first | (apply sk_r; rfl; rfl) | (apply sk_w; rfl; rfl) | (apply sk_i; rfl) | (apply sk_g; rfl; rfl)); (simp only [go_sem, Nat.reduceLT, Nat.reduceLeDiff, Nat.reduceEqDiff, Nat.reduceAdd, Nat.reduceSub, Nat.reduceMul, reduceIte, reduceCtorEq] <;> rfl); (first | refine sk_id ?_ | refine cs_t ?_ | refine cs_f ?_ | refine gs_t rfl ?_ | refine gs_f rfl ?_))
    | ((first | (apply sk_c; rfl; rfl)); (simp only [go_sem, Nat.reduceLT, Nat.reduceLeDiff, Nat.reduceEqDiff, Nat.reduceAdd, Nat.reduceSub, Nat.reduceMul, reduceIte, reduceCtorEq] <;> rfl); (first
        | (refine (f48_tr _ _ hc _).mono ?_; rintro _ _ ⟨rfl, rfl⟩)); refine sk_id ?_))
  exact sk_ret ⟨_, (by first | (simp only [aRet, Tryd.results33, aResults, aResult, go_sem, Nat.reduceLT, Nat.reduceLeDiff, Nat.reduceEqDiff, Nat.reduceAdd, Nat.reduceSub, Nat.reduceMul, reduceIte, reduceCtorEq] <;> rfl) | fail), rfl, rfl⟩

end Go.Proofs.YtophnlmdcidolaaDoor
namespace Go.Proofs.YtophnlmdcidolaaDoor
open Go Go.Am
set_option maxHeartbeats 8000000
set_option maxRecDepth 100000

theorem f67_tr (b k : Nat) (d S : List Nat) (hd : ∀ c ∈ d, c < 256) (hl : d.length ≤ 1000000) (σ : AHeap) (hb : σ.m.get b = some (.cells [.str d, .int .i64 k] false 0 [])) :
    Tr Tryd.prog 67 [.ptr b 0, .str S] σ fun v σ' => v = .tuple [] ∧ σ' = σ.put b (.cells [.str d, .int .i64 (run (isIn S) d k : Nat)] false 0 []) [] := by
  refine sk_body (m := 28) Tryd.func67 rfl (by decide) rfl ?_
  refine sk_block ?_
  rw [← put_self hb]
  refine sk_loop (fun m fr σ' => ∃ j, m = d.length - j ∧ run (isIn S) d j = run (isIn S) d k ∧ fget fr 0 = .ptr b 0 ∧ fget fr 1 = .str S ∧ σ' = σ.put b (.cells [.str d, .int .i64 (j : Nat)] false 0 []) []) _ ⟨k, rfl, rfl, by simp only [go_sem, Nat.reduceLT, Nat.reduceLeDiff, Nat.reduceEqDiff, Nat.reduceAdd, Nat.reduceSub, Nat.reduceMul, reduceIte, reduceCtorEq], by simp only [go_sem, Nat.reduceLT, Nat.reduceLeDiff, Nat.reduceEqDiff, Nat.reduceAdd, Nat.reduceSub, Nat.reduceMul, reduceIte, reduceCtorEq], rfl⟩ ?_
  rintro m fr _ ⟨j, rfl, hr, h0, h1, rfl⟩
  by_cases hj : j < d.length
  · obtain ⟨c, hc⟩ := at_some hj
    have hc8 := hd c (at_mem hc)
    have e1 : decide ((j : Int) ≥ d.length) = false := by simp; omega
    have e2 : (0 : Int) ≤ (j : Int) := by omega
    have e4 : IntKind.wrap .i64 ((j : Int) + 1) = ((j + 1 : Nat) : Int) := wrap_i64 (by omega) (by omega)
    cases hm : isIn S c
    · have e3 : decide (idx S c ≥ 0) = false := hm
      repeat (first
        | refine sk_seq ?_
        | refine sk_region ?_
        | refine sk_ops_nil ?_
        | refine sk_draw_nil ?_
        | refine sk_block ?_
        | refine sk_blk ?_
        | refine sk_skip ?_
        | refine sk_exit rfl ?_
        | refine sk_draw (id := 0) [0, 1, 2, 3, 4, 5, 6, 7, 8, 9, 10, 11, 12, 13, 14, 15, 16] mixed (by kernel_rfl) ?_
        | ((first | (apply sk_r; rfl; rfl) | (apply sk_w; rfl; rfl) | (apply sk_i; rfl) | (apply sk_g; rfl; rfl) | (apply sk_dr; rfl; rfl; rfl) | (apply sk_dg; rfl; rfl; rfl; rfl; rfl) | apply drd_i | (apply sk_dgn (i := 14) (fl := []); rfl; rfl; rfl; rfl; decide +kernel)); (simp only [go_sem, Nat.reduceLT, Nat.reduceLeDiff, Nat.reduceEqDiff, Nat.reduceAdd, Nat.reduceSub, Nat.reduceMul, reduceIte, reduceCtorEq, e1, e2, e3, h0, h1, hc] <;> rfl); (first | refine sk_id ?_ | refine cs_t ?_ | refine cs_f ?_ | refine gs_t rfl ?_ | refine gs_f rfl ?_ | ((repeat (first | exact trivial | ((first | (apply redos_r; rfl; rfl) | (apply redos_g; rfl; rfl; rfl; rfl)); (simp only [go_sem, Nat.reduceLT, Nat.reduceLeDiff, Nat.reduceEqDiff, Nat.reduceAdd, Nat.reduceSub, Nat.reduceMul, reduceIte, reduceCtorEq, e1, e2, e3, h0, h1, hc] <;> rfl)) | (apply redos_s; rfl; rfl; rfl; (simp only [go_sem, Nat.reduceLT, Nat.reduceLeDiff, Nat.reduceEqDiff, Nat.reduceAdd, Nat.reduceSub, Nat.reduceMul, reduceIte, reduceCtorEq, e1, e2, e3, h0, h1, hc] <;> rfl)))); refine sk_id ?_)))
        | ((first | (apply sk_c; rfl; rfl) | (apply sk_dnc (i := 1) (fl := []); rfl; rfl; decide +kernel; rfl) | (apply sk_dgc (i := 14) (fl := []); rfl; rfl; rfl; rfl; decide +kernel; rfl)); (simp only [go_sem, Nat.reduceLT, Nat.reduceLeDiff, Nat.reduceEqDiff, Nat.reduceAdd, Nat.reduceSub, Nat.reduceMul, reduceIte, reduceCtorEq, e1, e2, e3, h0, h1, hc] <;> rfl); (first
            | (refine (f68_tr _ b d j _ _ _ (get_put_same _ _ _)).mono ?_; rintro _ _ ⟨rfl, rfl⟩)
            | (refine (f48_tr _ _ hc8 _).mono ?_; rintro _ _ ⟨rfl, rfl⟩)); (first | refine sk_id ?_ | (refine ⟨?_, ?_⟩; (repeat (first | exact trivial | ((first | (apply redos_r; rfl; rfl) | (apply redos_g; rfl; rfl; rfl; rfl)); (simp only [go_sem, Nat.reduceLT, Nat.reduceLeDiff, Nat.reduceEqDiff, Nat.reduceAdd, Nat.reduceSub, Nat.reduceMul, reduceIte, reduceCtorEq, e1, e2, e3, h0, h1, hc] <;> rfl)) | (apply redos_s; rfl; rfl; rfl; (simp only [go_sem, Nat.reduceLT, Nat.reduceLeDiff, Nat.reduceEqDiff, Nat.reduceAdd, Nat.reduceSub, Nat.reduceMul, reduceIte, reduceCtorEq, e1, e2, e3, h0, h1, hc] <;> rfl)))); refine sk_id ?_))))
      exact sk_end ⟨_, (by first | (simp only [aRet, Tryd.results67, aResults, aResult, go_sem, Nat.reduceLT, Nat.reduceLeDiff, Nat.reduceEqDiff, Nat.reduceAdd, Nat.reduceSub, Nat.reduceMul, reduceIte, reduceCtorEq] <;> rfl) | fail), rfl, by rw [put_put, ← hr, run_stop hc hm]⟩
    · have e3 : decide (idx S c ≥ 0) = true := hm
      repeat (first
        | refine sk_seq ?_
        | refine sk_region ?_
        | refine sk_ops_nil ?_
        | refine sk_draw_nil ?_
        | refine sk_block ?_
        | refine sk_blk ?_
        | refine sk_skip ?_
        | refine sk_exit rfl ?_
        | refine sk_draw (id := 0) [0, 1, 2, 3, 4, 5, 6, 7, 8, 9, 10, 11, 12, 13, 14, 15, 16] mixed (by kernel_rfl) ?_
        | ((first | (apply sk_r; rfl; rfl) | (apply sk_w; rfl; rfl) | (apply sk_i; rfl) | (apply sk_g; rfl; rfl) | (apply sk_dr; rfl; rfl; rfl) | (apply sk_dg; rfl; rfl; rfl; rfl; rfl) | apply drd_i | (apply sk_dgn (i := 14) (fl := []); rfl; rfl; rfl; rfl; decide +kernel)); (simp only [go_sem, Nat.reduceLT, Nat.reduceLeDiff, Nat.reduceEqDiff, Nat.reduceAdd, Nat.reduceSub, Nat.reduceMul, reduceIte, reduceCtorEq, e1, e2, e3, e4, h0, h1, hc] <;> rfl); (first | refine sk_id ?_ | refine cs_t ?_ | refine cs_f ?_ | refine gs_t rfl ?_ | refine gs_f rfl ?_ | ((repeat (first | exact trivial | ((first | (apply redos_r; rfl; rfl) | (apply redos_g; rfl; rfl; rfl; rfl)); (simp only [go_sem, Nat.reduceLT, Nat.reduceLeDiff, Nat.reduceEqDiff, Nat.reduceAdd, Nat.reduceSub, Nat.reduceMul, reduceIte, reduceCtorEq, e1, e2, e3, e4, h0, h1, hc] <;> rfl)) | (apply redos_s; rfl; rfl; rfl; (simp only [go_sem, Nat.reduceLT, Nat.reduceLeDiff, Nat.reduceEqDiff, Nat.reduceAdd, Nat.reduceSub, Nat.reduceMul, reduceIte, reduceCtorEq, e1, e2, e3, e4, h0, h1, hc] <;> rfl)))); refine sk_id ?_)))
        | ((first | (apply sk_c; rfl; rfl) | (apply sk_dnc (i := 1) (fl := []); rfl; rfl; decide +kernel; rfl) | (apply sk_dgc (i := 14) (fl := []); rfl; rfl; rfl; rfl; decide +kernel; rfl)); (simp only [go_sem, Nat.reduceLT, Nat.reduceLeDiff, Nat.reduceEqDiff, Nat.reduceAdd, Nat.reduceSub, Nat.reduceMul, reduceIte, reduceCtorEq, e1, e2, e3, e4, h0, h1, hc] <;> rfl); (first
            | (refine (f68_tr _ b d j _ _ _ (get_put_same _ _ _)).mono ?_; rintro _ _ ⟨rfl, rfl⟩)
            | (refine (f48_tr _ _ hc8 _).mono ?_; rintro _ _ ⟨rfl, rfl⟩)); (first | refine sk_id ?_ | (refine ⟨?_, ?_⟩; (repeat (first | exact trivial | ((first | (apply redos_r; rfl; rfl) | (apply redos_g; rfl; rfl; rfl; rfl)); (simp only [go_sem, Nat.reduceLT, Nat.reduceLeDiff, Nat.reduceEqDiff, Nat.reduceAdd, Nat.reduceSub, Nat.reduceMul, reduceIte, reduceCtorEq, e1, e2, e3, e4, h0, h1, hc] <;> rfl)) | (apply redos_s; rfl; rfl; rfl; (simp only [go_sem, Nat.reduceLT, Nat.reduceLeDiff, Nat.reduceEqDiff, Nat.reduceAdd, Nat.reduceSub, Nat.reduceMul, reduceIte, reduceCtorEq, e1, e2, e3, e4, h0, h1, hc] <;> rfl)))); refine sk_id ?_))))
      exact sk_stop ⟨d.length - (j + 1), by omega, j + 1, rfl, (run_step hc hm).symm.trans hr, (by first | (simp only [go_sem, Nat.reduceLT, Nat.reduceLeDiff, Nat.reduceEqDiff, Nat.reduceAdd, Nat.reduceSub, Nat.reduceMul, reduceIte, reduceCtorEq, h0] <;> rfl) | fail), (by first | (simp only [go_sem, Nat.reduceLT, Nat.reduceLeDiff, Nat.reduceEqDiff, Nat.reduceAdd, Nat.reduceSub, Nat.reduceMul, reduceIte, reduceCtorEq, h1] <;> rfl) | fail), rfl⟩
  · have e1 : decide ((j : Int) ≥ d.length) = true := by simp; omega
    repeat (first
      | refine sk_seq ?_
      | refine sk_region ?_
      | refine sk_ops_nil ?_
      | refine sk_draw_nil ?_
      | refine sk_block ?_
      | refine sk_blk ?_
      | refine sk_skip ?_
      | refine sk_exit rfl ?_
      | refine sk_draw (id := 0) [0, 1, 2, 3, 4, 5, 6, 7, 8, 9, 10, 11, 12, 13, 14, 15, 16] mixed (by kernel_rfl) ?_
      | ((first | (apply sk_r; rfl; rfl) | (apply sk_w; rfl; rfl) | (apply sk_i; rfl) | (apply sk_g; rfl; rfl) | (apply sk_dr; rfl; rfl; rfl) | (apply sk_dg; rfl; rfl; rfl; rfl; rfl) | apply drd_i | (apply sk_dgn (i := 14) (fl := []); rfl; rfl; rfl; rfl; decide +kernel)); (simp only [go_sem, Nat.reduceLT, Nat.reduceLeDiff, Nat.reduceEqDiff, Nat.reduceAdd, Nat.reduceSub, Nat.reduceMul, reduceIte, reduceCtorEq, e1, h0, h1] <;> rfl); (first | refine sk_id ?_ | refine cs_t ?_ | refine cs_f ?_ | refine gs_t rfl ?_ | refine gs_f rfl ?_ | ((repeat (first | exact trivial | ((first | (apply redos_r; rfl; rfl) | (apply redos_g; rfl; rfl; rfl; rfl)); (simp only [go_sem, Nat.reduceLT, Nat.reduceLeDiff, Nat.reduceEqDiff, Nat.reduceAdd, Nat.reduceSub, Nat.reduceMul, reduceIte, reduceCtorEq, e1, h0, h1] <;> rfl)) | (apply redos_s; rfl; rfl; rfl; (simp only [go_sem, Nat.reduceLT, Nat.reduceLeDiff, Nat.reduceEqDiff, Nat.reduceAdd, Nat.reduceSub, Nat.reduceMul, reduceIte, reduceCtorEq, e1, h0, h1] <;> rfl)))); refine sk_id ?_)))
      | ((first | (apply sk_c; rfl; rfl) | (apply sk_dnc (i := 1) (fl := []); rfl; rfl; decide +kernel; rfl) | (apply sk_dgc (i := 14) (fl := []); rfl; rfl; rfl; rfl; decide +kernel; rfl)); (simp only [go_sem, Nat.reduceLT, Nat.reduceLeDiff, Nat.reduceEqDiff, Nat.reduceAdd, Nat.reduceSub, Nat.reduceMul, reduceIte, reduceCtorEq, e1, h0, h1] <;> rfl); (first
          | (refine (f68_tr _ b d j _ _ _ (get_put_same _ _ _)).mono ?_; rintro _ _ ⟨rfl, rfl⟩)); (first | refine sk_id ?_ | (refine ⟨?_, ?_⟩; (repeat (first | exact trivial | ((first | (apply redos_r; rfl; rfl) | (apply redos_g; rfl; rfl; rfl; rfl)); (simp only [go_sem, Nat.reduceLT, Nat.reduceLeDiff, Nat.reduceEqDiff, Nat.reduceAdd, Nat.reduceSub, Nat.reduceMul, reduceIte, reduceCtorEq, e1, h0, h1] <;> rfl)) | (apply redos_s; rfl; rfl; rfl; (simp only [go_sem, Nat.reduceLT, Nat.reduceLeDiff, Nat.reduceEqDiff, Nat.reduceAdd, Nat.reduceSub, Nat.reduceMul, reduceIte, reduceCtorEq, e1, h0, h1] <;> rfl)))); refine sk_id ?_))))
    exact sk_end ⟨_, (by first | (simp only [aRet, Tryd.results67, aResults, aResult, go_sem, Nat.reduceLT, Nat.reduceLeDiff, Nat.reduceEqDiff, Nat.reduceAdd, Nat.reduceSub, Nat.reduceMul, reduceIte, reduceCtorEq] <;> rfl) | fail), rfl, by rw [put_put, ← hr, run_end (by omega)]⟩
end Go.Proofs.YtophnlmdcidolaaDoor
namespace Go.Proofs.YtophnlmdcidolaaDoor
open Go Go.Am
set_option maxHeartbeats 8000000
set_option maxRecDepth 100000

theorem f77_tr (d S : List Nat) (hS : ∀ c ∈ S, c < 128) (hl : d.length ≤ 1000000) (σ : AHeap) :
    Tr Tryd.prog 77 [.str d, .str S] σ fun v σ' => v = .int .i64 (firstIn S d) ∧ σ' = σ := by
  refine Tr.wf fun hW => Tr.pure ?_
  refine sk_body (m := 24) Tryd.func77 rfl (by decide) rfl ?_
  repeat (first
    | refine sk_seq ?_
    | refine sk_region ?_
    | refine sk_ops_nil ?_
    | refine sk_block ?_
    | refine sk_blk ?_
    | refine sk_skip ?_
    | refine sk_exit rfl ?_
    | ((first | (apply sk_r; rfl; rfl) | (apply sk_w; rfl; rfl) | (apply sk_i; rfl) | (apply sk_g; rfl; rfl)); (simp only [go_sem, Nat.reduceLT, Nat.reduceLeDiff, Nat.reduceEqDiff, Nat.reduceAdd, Nat.reduceSub, Nat.reduceMul, reduceIte, reduceCtorEq] <;> rfl); (first | refine sk_id ?_ | refine cs_t ?_ | refine cs_f ?_ | refine gs_t rfl ?_ | refine gs_f rfl ?_)))
  refine sk_loop (fun m fr σ' => ∃ j, m = d.length - j ∧ (j < d.length → run (fun c => !isIn S c) d j = run (fun c => !isIn S c) d 0) ∧ (d.length ≤ j → d.length ≤ run (fun c => !isIn S c) d 0)
    ∧ fget fr 1 = .str S ∧ fget fr 10 = .ptr σ.next 0 ∧ σ'.m.get σ.next = some (.siter d j) ∧ σ.next < σ'.next ∧ ∀ b x, σ.m.get b = some x → σ'.m.get b = some x) _
    ⟨0, rfl, fun _ => rfl, fun h => Nat.le_trans h (Nat.zero_le _), by simp only [go_sem, Nat.reduceLT, Nat.reduceLeDiff, Nat.reduceEqDiff, Nat.reduceAdd, Nat.reduceSub, Nat.reduceMul, reduceIte, reduceCtorEq], by simp only [go_sem, Nat.reduceLT, Nat.reduceLeDiff, Nat.reduceEqDiff, Nat.reduceAdd, Nat.reduceSub, Nat.reduceMul, reduceIte, reduceCtorEq], get_push_same _ _, by rw [next_push]; omega, fun b x h => by rw [get_push, if_neg (by have := wf_lt hW h; omega)]; exact h⟩ ?_
  rintro m fr σ1 ⟨j, rfl, hr, hr2, h1, h10, hg, hn, hk⟩
  by_cases hj : j < d.length
  · obtain ⟨c, hc⟩ := at_some hj
    have e1 : decide (j < d.length) = true := by simpa using hj
    have hdr := drop_some hc
    obtain ⟨r, w, hrw⟩ : ∃ r w, dec (d.drop j) = (r, w) := ⟨_, _, rfl⟩
    have hlow : c < 128 → r = c ∧ w = 1 := fun h => by rw [hdr, dec_ascii _ h] at hrw; simp at hrw; omega
    have hhigh : 128 ≤ c → 128 ≤ r ∧ 1 ≤ w ∧ ∀ i x, i < w → d[j + i]? = some x → 128 ≤ x := fun h => by
      have := dec_high (d.drop (j + 1)) h
      rw [← hdr, hrw] at this
      refine ⟨this.1, this.2.1, fun i x hi hx => this.2.2 i x hi ?_⟩
      rw [List.getElem?_drop]; exact hx
    repeat (first
      | refine sk_seq ?_
      | refine sk_region ?_
      | refine sk_ops_nil ?_
      | refine sk_block ?_
      | refine sk_blk ?_
      | refine sk_skip ?_
      | refine sk_exit rfl ?_
      | ((first | (apply sk_r; rfl; rfl) | (apply sk_w; rfl; rfl) | (apply sk_i; rfl) | (apply sk_g; rfl; rfl)); (simp only [go_sem, Nat.reduceLT, Nat.reduceLeDiff, Nat.reduceEqDiff, Nat.reduceAdd, Nat.reduceSub, Nat.reduceMul, reduceIte, reduceCtorEq, e1, h1, h10, hg, hrw] <;> rfl); (first | refine sk_id ?_ | refine cs_t ?_ | refine cs_f ?_ | refine gs_t rfl ?_ | refine gs_f rfl ?_)))
    have g1 : ∀ x, ((σ1.put σ.next (.siter d (j + w)) []).push x).m.get σ1.next = some x := fun x => get_push_same (σ1.put σ.next (.siter d (j + w)) []) x
    have g2 : ∀ x y, ((σ1.put σ.next (.siter d (j + w)) []).push x).put σ1.next y [] = (σ1.put σ.next (.siter d (j + w)) []).push y := fun x y => put_push_same (σ1.put σ.next (.siter d (j + w)) []) x y
    have keep : ∀ y b x, σ.m.get b = some x → ((σ1.put σ.next (.siter d (j + w)) []).push y).m.get b = some x := fun y b x h => by
      have := wf_lt hW h
      rw [get_push, if_neg (by rw [next_put]; omega), get_put, if_neg (by omega)]
      exact hk b x h
    have keep2 : ∀ y, ((σ1.put σ.next (.siter d (j + w)) []).push y).m.get σ.next = some (.siter d (j + w)) := fun y => by
      rw [get_push, if_neg (by rw [next_put]; omega), get_put_same]
    have hi1 : ∀ i, i < S.length → ∃ s, S[i]? = some s ∧ dec (S.drop i) = (s, 1) := fun i hi => by
      obtain ⟨s, hs⟩ := at_some hi
      exact ⟨s, hs, by rw [drop_some hs]; exact dec_ascii _ (hS s (at_mem hs))⟩
    by_cases hm : r ∈ S
    · have hfound : firstIn S d = (j : Nat) := by
        have hc8 : c < 128 := by
          by_cases e : c < 128
          · exact e
          · have := (hhigh (by omega)).1; have := hS r hm; omega
        have e := hr hj
        rw [run_stop hc (by rw [← (hlow hc8).1]; exact isIn_yes hm)] at e
        rw [firstIn, ← e, if_pos hj]
      refine sk_loop (fun m fr σ' => ∃ i, m = S.length - i ∧ i ≤ S.length ∧ r ∈ S.drop i ∧ fget fr 5 = .int .i64 (j : Nat) ∧ fget fr 6 = .int .i32 (r : Nat) ∧ fget fr 16 = .ptr σ1.next 0 ∧ σ' = (σ1.put σ.next (.siter d (j + w)) []).push (.siter S i)) _
        ⟨0, rfl, by omega, by simpa using hm, by simp only [go_sem, Nat.reduceLT, Nat.reduceLeDiff, Nat.reduceEqDiff, Nat.reduceAdd, Nat.reduceSub, Nat.reduceMul, reduceIte, reduceCtorEq], by simp only [go_sem, Nat.reduceLT, Nat.reduceLeDiff, Nat.reduceEqDiff, Nat.reduceAdd, Nat.reduceSub, Nat.reduceMul, reduceIte, reduceCtorEq], by simp only [go_sem, Nat.reduceLT, Nat.reduceLeDiff, Nat.reduceEqDiff, Nat.reduceAdd, Nat.reduceSub, Nat.reduceMul, reduceIte, reduceCtorEq], rfl⟩ ?_
      rintro _ fr _ ⟨i, rfl, hil, him, h5, h6, h16, rfl⟩
      have hil : i < S.length := by
        by_cases e : i < S.length
        · exact e
        · rw [List.drop_eq_nil_of_le (by omega)] at him; simp at him
      obtain ⟨s, hs, hds⟩ := hi1 i hil
      have e2 : decide (i < S.length) = true := by simpa using hil
      by_cases hrs : r = s
      · have e3 : ((r : Int) == (s : Int)) = true := by simp [hrs]
        repeat (first
          | refine sk_seq ?_
          | refine sk_region ?_
          | refine sk_ops_nil ?_
          | refine sk_block ?_
          | refine sk_blk ?_
          | refine sk_skip ?_
          | refine sk_exit rfl ?_
          | ((first | (apply sk_r; rfl; rfl) | (apply sk_w; rfl; rfl) | (apply sk_i; rfl) | (apply sk_g; rfl; rfl)); (simp only [go_sem, Nat.reduceLT, Nat.reduceLeDiff, Nat.reduceEqDiff, Nat.reduceAdd, Nat.reduceSub, Nat.reduceMul, reduceIte, reduceCtorEq, e2, e3, h5, h6, h16, hds, g1, g2] <;> rfl); (first | refine sk_id ?_ | refine cs_t ?_ | refine cs_f ?_ | refine gs_t rfl ?_ | refine gs_f rfl ?_)))
        exact sk_ret ⟨_, (by first | (simp only [aRet, Tryd.results77, aResults, aResult, go_sem, Nat.reduceLT, Nat.reduceLeDiff, Nat.reduceEqDiff, Nat.reduceAdd, Nat.reduceSub, Nat.reduceMul, reduceIte, reduceCtorEq] <;> rfl) | fail), rfl, fun b x h => keep _ b x h, by rw [hfound], rfl⟩
      · have e3 : ((r : Int) == (s : Int)) = false := by simp; omega
        repeat (first
          | refine sk_seq ?_
          | refine sk_region ?_
          | refine sk_ops_nil ?_
          | refine sk_block ?_
          | refine sk_blk ?_
          | refine sk_skip ?_
          | refine sk_exit rfl ?_
          | ((first | (apply sk_r; rfl; rfl) | (apply sk_w; rfl; rfl) | (apply sk_i; rfl) | (apply sk_g; rfl; rfl)); (simp only [go_sem, Nat.reduceLT, Nat.reduceLeDiff, Nat.reduceEqDiff, Nat.reduceAdd, Nat.reduceSub, Nat.reduceMul, reduceIte, reduceCtorEq, e2, e3, h5, h6, h16, hds, g1, g2] <;> rfl); (first | refine sk_id ?_ | refine cs_t ?_ | refine cs_f ?_ | refine gs_t rfl ?_ | refine gs_f rfl ?_)))
        exact sk_stop ⟨S.length - (i + 1), by omega, i + 1, rfl, by omega, by
          rw [drop_some hs] at him
          rcases List.mem_cons.1 him with h | h
          · exact absurd h hrs
          · exact h, (by first | (simp only [go_sem, Nat.reduceLT, Nat.reduceLeDiff, Nat.reduceEqDiff, Nat.reduceAdd, Nat.reduceSub, Nat.reduceMul, reduceIte, reduceCtorEq, h5] <;> rfl) | fail), (by first | (simp only [go_sem, Nat.reduceLT, Nat.reduceLeDiff, Nat.reduceEqDiff, Nat.reduceAdd, Nat.reduceSub, Nat.reduceMul, reduceIte, reduceCtorEq, h6] <;> rfl) | fail), (by first | (simp only [go_sem, Nat.reduceLT, Nat.reduceLeDiff, Nat.reduceEqDiff, Nat.reduceAdd, Nat.reduceSub, Nat.reduceMul, reduceIte, reduceCtorEq, h16] <;> rfl) | fail), rfl⟩
    · have hw : 1 ≤ w := by
        by_cases e : c < 128
        · have := hlow e; omega
        · exact (hhigh (by omega)).2.1
      have hsk : ∀ i x, i < w → d[j + i]? = some x → (!isIn S x) = true := fun i x hi hx => isIn_not fun hx2 => by
        by_cases e : c < 128
        · obtain ⟨e1, e2⟩ := hlow e
          obtain rfl : i = 0 := by omega
          have e3 : some x = some c := by rw [← hx, ← hc]; rfl
          simp at e3
          exact hm (by rw [e1, ← e3]; exact hx2)
        · have h3 := (hhigh (by omega)).2.2 i x hi hx
          have h4 := hS x hx2
          omega
      have hs2 := run_skip (p := fun c => !isIn S c) w j hsk
      have hsk1 : j + w < d.length → run (fun c => !isIn S c) d (j + w) = run (fun c => !isIn S c) d 0 := fun h => by rw [← hs2.1 (by omega)]; exact hr hj
      have hsk2 : d.length ≤ j + w → d.length ≤ run (fun c => !isIn S c) d 0 := fun h => by rw [← hr hj]; exact hs2.2 h
      refine sk_loop (fun m fr σ' => ∃ i, m = S.length - i ∧ i ≤ S.length ∧ fget fr 1 = .str S ∧ fget fr 10 = .ptr σ.next 0 ∧ fget fr 6 = .int .i32 (r : Nat) ∧ fget fr 16 = .ptr σ1.next 0 ∧ σ' = (σ1.put σ.next (.siter d (j + w)) []).push (.siter S i)) _
        ⟨0, rfl, by omega, by simp only [go_sem, Nat.reduceLT, Nat.reduceLeDiff, Nat.reduceEqDiff, Nat.reduceAdd, Nat.reduceSub, Nat.reduceMul, reduceIte, reduceCtorEq, h1], by simp only [go_sem, Nat.reduceLT, Nat.reduceLeDiff, Nat.reduceEqDiff, Nat.reduceAdd, Nat.reduceSub, Nat.reduceMul, reduceIte, reduceCtorEq, h10], by simp only [go_sem, Nat.reduceLT, Nat.reduceLeDiff, Nat.reduceEqDiff, Nat.reduceAdd, Nat.reduceSub, Nat.reduceMul, reduceIte, reduceCtorEq], by simp only [go_sem, Nat.reduceLT, Nat.reduceLeDiff, Nat.reduceEqDiff, Nat.reduceAdd, Nat.reduceSub, Nat.reduceMul, reduceIte, reduceCtorEq], rfl⟩ ?_
      rintro _ fr _ ⟨i, rfl, hil, h1, h10, h6, h16, rfl⟩
      by_cases hil : i < S.length
      · obtain ⟨s, hs, hds⟩ := hi1 i hil
        have e2 : decide (i < S.length) = true := by simpa using hil
        have e3 : ((r : Int) == (s : Int)) = false := by
          have : r ≠ s := fun e => hm (e ▸ at_mem hs)
          simp; omega
        repeat (first
          | refine sk_seq ?_
          | refine sk_region ?_
          | refine sk_ops_nil ?_
          | refine sk_block ?_
          | refine sk_blk ?_
          | refine sk_skip ?_
          | refine sk_exit rfl ?_
          | ((first | (apply sk_r; rfl; rfl) | (apply sk_w; rfl; rfl) | (apply sk_i; rfl) | (apply sk_g; rfl; rfl)); (simp only [go_sem, Nat.reduceLT, Nat.reduceLeDiff, Nat.reduceEqDiff, Nat.reduceAdd, Nat.reduceSub, Nat.reduceMul, reduceIte, reduceCtorEq, e2, e3, h1, h10, h6, h16, hds, g1, g2] <;> rfl); (first | refine sk_id ?_ | refine cs_t ?_ | refine cs_f ?_ | refine gs_t rfl ?_ | refine gs_f rfl ?_)))
        exact sk_stop ⟨S.length - (i + 1), by omega, i + 1, rfl, by omega, (by first | (simp only [go_sem, Nat.reduceLT, Nat.reduceLeDiff, Nat.reduceEqDiff, Nat.reduceAdd, Nat.reduceSub, Nat.reduceMul, reduceIte, reduceCtorEq, h1] <;> rfl) | fail), (by first | (simp only [go_sem, Nat.reduceLT, Nat.reduceLeDiff, Nat.reduceEqDiff, Nat.reduceAdd, Nat.reduceSub, Nat.reduceMul, reduceIte, reduceCtorEq, h10] <;> rfl) | fail), (by first | (simp only [go_sem, Nat.reduceLT, Nat.reduceLeDiff, Nat.reduceEqDiff, Nat.reduceAdd, Nat.reduceSub, Nat.reduceMul, reduceIte, reduceCtorEq, h6] <;> rfl) | fail), (by first | (simp only [go_sem, Nat.reduceLT, Nat.reduceLeDiff, Nat.reduceEqDiff, Nat.reduceAdd, Nat.reduceSub, Nat.reduceMul, reduceIte, reduceCtorEq, h16] <;> rfl) | fail), rfl⟩
      · have e2 : decide (i < S.length) = false := by simpa using hil
        repeat (first
          | refine sk_seq ?_
          | refine sk_region ?_
          | refine sk_ops_nil ?_
          | refine sk_block ?_
          | refine sk_blk ?_
          | refine sk_skip ?_
          | refine sk_exit rfl ?_
          | ((first | (apply sk_r; rfl; rfl) | (apply sk_w; rfl; rfl) | (apply sk_i; rfl) | (apply sk_g; rfl; rfl)); (simp only [go_sem, Nat.reduceLT, Nat.reduceLeDiff, Nat.reduceEqDiff, Nat.reduceAdd, Nat.reduceSub, Nat.reduceMul, reduceIte, reduceCtorEq, e2, h1, h10, h6, h16, g1, g2] <;> rfl); (first | refine sk_id ?_ | refine cs_t ?_ | refine cs_f ?_ | refine gs_t rfl ?_ | refine gs_f rfl ?_)))
        exact sk_stop ⟨d.length - (j + w), by omega, j + w, rfl, hsk1, hsk2, (by first | (simp only [go_sem, Nat.reduceLT, Nat.reduceLeDiff, Nat.reduceEqDiff, Nat.reduceAdd, Nat.reduceSub, Nat.reduceMul, reduceIte, reduceCtorEq, h1] <;> rfl) | fail), (by first | (simp only [go_sem, Nat.reduceLT, Nat.reduceLeDiff, Nat.reduceEqDiff, Nat.reduceAdd, Nat.reduceSub, Nat.reduceMul, reduceIte, reduceCtorEq, h10] <;> rfl) | fail), keep2 _, by simp only [next_push, next_put]; omega, fun b x h => keep _ b x h⟩
  · have e1 : decide (j < d.length) = false := by simpa using hj
    repeat (first
      | refine sk_seq ?_
      | refine sk_region ?_
      | refine sk_ops_nil ?_
      | refine sk_block ?_
      | refine sk_blk ?_
      | refine sk_skip ?_
      | refine sk_exit rfl ?_
      | ((first | (apply sk_r; rfl; rfl) | (apply sk_w; rfl; rfl) | (apply sk_i; rfl) | (apply sk_g; rfl; rfl)); (simp only [go_sem, Nat.reduceLT, Nat.reduceLeDiff, Nat.reduceEqDiff, Nat.reduceAdd, Nat.reduceSub, Nat.reduceMul, reduceIte, reduceCtorEq, e1, h10, hg] <;> rfl); (first | refine sk_id ?_ | refine cs_t ?_ | refine cs_f ?_ | refine gs_t rfl ?_ | refine gs_f rfl ?_)))
    exact sk_ret ⟨_, (by first | (simp only [aRet, Tryd.results77, aResults, aResult, go_sem, Nat.reduceLT, Nat.reduceLeDiff, Nat.reduceEqDiff, Nat.reduceAdd, Nat.reduceSub, Nat.reduceMul, reduceIte, reduceCtorEq] <;> rfl) | fail), rfl, hk, by rw [firstIn, if_neg (by have := hr2 (by omega); omega)], rfl⟩
end Go.Proofs.YtophnlmdcidolaaDoor
namespace Go.Proofs.YtophnlmdcidolaaDoor
open Go Go.Am
set_option maxHeartbeats 8000000
set_option maxRecDepth 100000

/-- the memory of a reader -/
abbrev rdr (d : List Nat) (k : Nat) : ABlock := .cells [.str d, .int .i64 k] false 0 []

theorem f54_tr (b k : Nat) (d S : List Nat) (hS : ∀ c ∈ S, c < 128) (hk : k ≤ d.length) (hl : d.length ≤ 1000000) (σ : AHeap) (hb : σ.m.get b = some (rdr d k)) :
    Tr Tryd.prog 54 [.ptr b 0, .str S] σ fun v σ' =>
      (run (fun c => !isIn S c) d k < d.length → v = .tuple [.str ((d.take (run (fun c => !isIn S c) d k)).drop k), .bool true] ∧ σ' = σ.put b (rdr d (run (fun c => !isIn S c) d k)) []) ∧
      (d.length ≤ run (fun c => !isIn S c) d k → v = .tuple [.str [], .bool false] ∧ σ' = σ.put b (rdr d d.length) []) := by
  refine sk_body (m := 53) Tryd.func54 rfl (by decide) rfl ?_
  have hrk := run_ge (fun c => !isIn S c) d k
  have e1 : (0 : Int) ≤ (k : Int) := by omega
  have e2 : (k : Int) ≤ (d.length : Int) := by omega
  have e3 : (d.length : Int) ≤ (d.length : Int) := by omega
  by_cases hf : run (fun c => !isIn S c) d k < d.length
  · have e4 := firstIn_drop (S := S) hk
    rw [if_pos hf] at e4
    obtain ⟨f, hfe⟩ : ∃ f, f = run (fun c => !isIn S c) d k := ⟨_, rfl⟩
    rw [← hfe] at e4 hf hrk ⊢
    have e5 : decide (((f - k : Nat) : Int) < 0) = false := by simp
    have e6 : IntKind.wrap .i64 ((k : Int) + ((f - k : Nat) : Int)) = ((f : Nat) : Int) := by rw [wrap_i64 (by omega) (by omega)]; omega
    have e7 : (k : Int) ≤ (f : Int) := by omega
    have e8 : (f : Int) ≤ (d.length : Int) := by omega
    repeat (first
      | refine sk_seq ?_
      | refine sk_region ?_
      | refine sk_ops_nil ?_
      | refine sk_draw_nil ?_
      | refine sk_block ?_
      | refine sk_blk ?_
      | refine sk_skip ?_
      | refine sk_exit rfl ?_
      | refine sk_draw (id := 1) [0, 1, 2, 3, 4, 5, 6, 7, 8, 9, 10, 11] mixed (by kernel_rfl) ?_
      | refine sk_draw (id := 5) [0, 1, 2, 3, 4, 5, 6, 7, 8, 9, 10, 11, 12, 13, 14, 15] mixed (by kernel_rfl) ?_
      | ((first | (apply sk_r; rfl; rfl) | (apply sk_w; rfl; rfl) | (apply sk_i; rfl) | (apply sk_g; rfl; rfl) | (apply sk_dr; rfl; rfl; rfl) | (apply sk_dg; rfl; rfl; rfl; rfl; rfl) | apply drd_i | (apply sk_dnr (i := 11) (fl := []); rfl; rfl; decide +kernel; rfl; rfl) | (apply sk_dnw (i := 11) (fl := []); rfl; rfl; decide +kernel; rfl; rfl) | (apply sk_dnr (i := 15) (fl := []); rfl; rfl; decide +kernel; rfl; rfl) | (apply sk_dnw (i := 15) (fl := []); rfl; rfl; decide +kernel; rfl; rfl)); (simp only [go_sem, Nat.reduceLT, Nat.reduceLeDiff, Nat.reduceEqDiff, Nat.reduceAdd, Nat.reduceSub, Nat.reduceMul, reduceIte, reduceCtorEq, hb, e1, e2, e3, e4, e5, e6, e7, e8, List.take_length, and_self] <;> rfl); (first | refine sk_id ?_ | refine cs_t ?_ | refine cs_f ?_ | refine gs_t rfl ?_ | refine gs_f rfl ?_ | ((repeat (first | exact trivial | ((first | (apply redos_r; rfl; rfl) | (apply redos_g; rfl; rfl; rfl; rfl)); (simp only [go_sem, Nat.reduceLT, Nat.reduceLeDiff, Nat.reduceEqDiff, Nat.reduceAdd, Nat.reduceSub, Nat.reduceMul, reduceIte, reduceCtorEq, hb, e1, e2, e3, e4, e5, e6, e7, e8, List.take_length, and_self] <;> rfl)) | (apply redos_s; rfl; rfl; rfl; (simp only [go_sem, Nat.reduceLT, Nat.reduceLeDiff, Nat.reduceEqDiff, Nat.reduceAdd, Nat.reduceSub, Nat.reduceMul, reduceIte, reduceCtorEq, hb, e1, e2, e3, e4, e5, e6, e7, e8, List.take_length, and_self] <;> rfl)))); refine sk_id ?_)))
      | ((first | (apply sk_c; rfl; rfl) | (apply sk_dnc (i := 10) (fl := []); rfl; rfl; decide +kernel; rfl)); (simp only [go_sem, Nat.reduceLT, Nat.reduceLeDiff, Nat.reduceEqDiff, Nat.reduceAdd, Nat.reduceSub, Nat.reduceMul, reduceIte, reduceCtorEq, hb, e1, e2, e3, e4, e5, e6, e7, e8, List.take_length, and_self] <;> rfl); (first
          | (refine (f77_tr (d.drop k) S hS (by rw [List.length_drop]; omega) _).mono ?_; rintro _ _ ⟨rfl, rfl⟩)); (first | refine sk_id ?_ | (refine ⟨?_, ?_⟩; (repeat (first | exact trivial | ((first | (apply redos_r; rfl; rfl) | (apply redos_g; rfl; rfl; rfl; rfl)); (simp only [go_sem, Nat.reduceLT, Nat.reduceLeDiff, Nat.reduceEqDiff, Nat.reduceAdd, Nat.reduceSub, Nat.reduceMul, reduceIte, reduceCtorEq, hb, e1, e2, e3, e4, e5, e6, e7, e8, List.take_length, and_self] <;> rfl)) | (apply redos_s; rfl; rfl; rfl; (simp only [go_sem, Nat.reduceLT, Nat.reduceLeDiff, Nat.reduceEqDiff, Nat.reduceAdd, Nat.reduceSub, Nat.reduceMul, reduceIte, reduceCtorEq, hb, e1, e2, e3, e4, e5, e6, e7, e8, List.take_length, and_self] <;> rfl)))); refine sk_id ?_))))
    exact sk_ret ⟨_, (by first | (simp only [aRet, Tryd.results54, aResults, aResult, go_sem, Nat.reduceLT, Nat.reduceLeDiff, Nat.reduceEqDiff, Nat.reduceAdd, Nat.reduceSub, Nat.reduceMul, reduceIte, reduceCtorEq] <;> rfl) | fail), fun _ => ⟨rfl, rfl⟩, fun h => absurd h (by omega)⟩
  · have e4 := firstIn_drop (S := S) hk
    rw [if_neg hf] at e4
    have e5 : decide ((-1 : Int) < 0) = true := by decide
    repeat (first
      | refine sk_seq ?_
      | refine sk_region ?_
      | refine sk_ops_nil ?_
      | refine sk_draw_nil ?_
      | refine sk_block ?_
      | refine sk_blk ?_
      | refine sk_skip ?_
      | refine sk_exit rfl ?_
      | refine sk_draw (id := 1) [0, 1, 2, 3, 4, 5, 6, 7, 8, 9, 10, 11] mixed (by kernel_rfl) ?_
      | refine sk_draw (id := 5) [0, 1, 2, 3, 4, 5, 6, 7, 8, 9, 10, 11, 12, 13, 14, 15] mixed (by kernel_rfl) ?_
      | ((first | (apply sk_r; rfl; rfl) | (apply sk_w; rfl; rfl) | (apply sk_i; rfl) | (apply sk_g; rfl; rfl) | (apply sk_dr; rfl; rfl; rfl) | (apply sk_dg; rfl; rfl; rfl; rfl; rfl) | apply drd_i | (apply sk_dnr (i := 11) (fl := []); rfl; rfl; decide +kernel; rfl; rfl) | (apply sk_dnw (i := 11) (fl := []); rfl; rfl; decide +kernel; rfl; rfl) | (apply sk_dnr (i := 15) (fl := []); rfl; rfl; decide +kernel; rfl; rfl) | (apply sk_dnw (i := 15) (fl := []); rfl; rfl; decide +kernel; rfl; rfl)); (simp only [go_sem, Nat.reduceLT, Nat.reduceLeDiff, Nat.reduceEqDiff, Nat.reduceAdd, Nat.reduceSub, Nat.reduceMul, reduceIte, reduceCtorEq, hb, e1, e2, e3, e4, e5, List.take_length, and_self] <;> rfl); (first | refine sk_id ?_ | refine cs_t ?_ | refine cs_f ?_ | refine gs_t rfl ?_ | refine gs_f rfl ?_ | ((repeat (first | exact trivial | ((first | (apply redos_r; rfl; rfl) | (apply redos_g; rfl; rfl; rfl; rfl)); (simp only [go_sem, Nat.reduceLT, Nat.reduceLeDiff, Nat.reduceEqDiff, Nat.reduceAdd, Nat.reduceSub, Nat.reduceMul, reduceIte, reduceCtorEq, hb, e1, e2, e3, e4, e5, List.take_length, and_self] <;> rfl)) | (apply redos_s; rfl; rfl; rfl; (simp only [go_sem, Nat.reduceLT, Nat.reduceLeDiff, Nat.reduceEqDiff, Nat.reduceAdd, Nat.reduceSub, Nat.reduceMul, reduceIte, reduceCtorEq, hb, e1, e2, e3, e4, e5, List.take_length, and_self] <;> rfl)))); refine sk_id ?_)))
      | ((first | (apply sk_c; rfl; rfl) | (apply sk_dnc (i := 10) (fl := []); rfl; rfl; decide +kernel; rfl)); (simp only [go_sem, Nat.reduceLT, Nat.reduceLeDiff, Nat.reduceEqDiff, Nat.reduceAdd, Nat.reduceSub, Nat.reduceMul, reduceIte, reduceCtorEq, hb, e1, e2, e3, e4, e5, List.take_length, and_self] <;> rfl); (first
          | (refine (f77_tr (d.drop k) S hS (by rw [List.length_drop]; omega) _).mono ?_; rintro _ _ ⟨rfl, rfl⟩)); (first | refine sk_id ?_ | (refine ⟨?_, ?_⟩; (repeat (first | exact trivial | ((first | (apply redos_r; rfl; rfl) | (apply redos_g; rfl; rfl; rfl; rfl)); (simp only [go_sem, Nat.reduceLT, Nat.reduceLeDiff, Nat.reduceEqDiff, Nat.reduceAdd, Nat.reduceSub, Nat.reduceMul, reduceIte, reduceCtorEq, hb, e1, e2, e3, e4, e5, List.take_length, and_self] <;> rfl)) | (apply redos_s; rfl; rfl; rfl; (simp only [go_sem, Nat.reduceLT, Nat.reduceLeDiff, Nat.reduceEqDiff, Nat.reduceAdd, Nat.reduceSub, Nat.reduceMul, reduceIte, reduceCtorEq, hb, e1, e2, e3, e4, e5, List.take_length, and_self] <;> rfl)))); refine sk_id ?_))))
    exact sk_ret ⟨_, (by first | (simp only [aRet, Tryd.results54, aResults, aResult, go_sem, Nat.reduceLT, Nat.reduceLeDiff, Nat.reduceEqDiff, Nat.reduceAdd, Nat.reduceSub, Nat.reduceMul, reduceIte, reduceCtorEq] <;> rfl) | fail), fun h => absurd h hf, fun _ => ⟨rfl, rfl⟩⟩

theorem f32_tr (l : List Nat) (h8 : ∀ c ∈ l, c < 256) (hl : l.length ≤ 140737488355327) (σ : AHeap) : Tr Tryd.prog 32 [.str l] σ fun v σ' => v = .str (l.map low) ∧ σ' = σ := by
  refine Tr.wf fun hW => Tr.pure ?_
  refine sk_body (m := 29) Tryd.func32 rfl (by decide) rfl ?_
  repeat (first
    | refine sk_seq ?_
    | refine sk_region ?_
    | refine sk_ops_nil ?_
    | refine sk_block ?_
    | refine sk_blk ?_
    | refine sk_skip ?_
    | refine sk_exit rfl ?_
    | ((first | (apply sk_r; rfl; rfl) | (apply sk_w; rfl; rfl) | (apply sk_i; rfl) | (apply sk_g; rfl; rfl)); (simp only [go_sem, Nat.reduceLT, Nat.reduceLeDiff, Nat.reduceEqDiff, Nat.reduceAdd, Nat.reduceSub, Nat.reduceMul, reduceIte, reduceCtorEq] <;> rfl); (first | refine sk_id ?_ | refine cs_t ?_ | refine cs_f ?_ | refine gs_t rfl ?_ | refine gs_f rfl ?_))
    | (apply sk_w; rfl; rfl; (simp only [go_sem, Nat.reduceLT, Nat.reduceLeDiff, Nat.reduceEqDiff, Nat.reduceAdd, Nat.reduceSub, Nat.reduceMul, reduceIte, reduceCtorEq] <;> rfl); refine sk_id ?_))
  refine sk_loop (fun m fr σ' => ∃ i, m = l.length - i ∧ i ≤ l.length ∧ fget fr 3 = .slice σ.next 0 l.length l.length false 1 ∧ fget fr 8 = .slice σ.next 0 l.length l.length false 1 ∧ fget fr 9 = .int .i64 l.length ∧ fget fr 10 = .int .i64 (i : Nat) ∧ σ' = σ.push (.cells (bytesAV (mid l i)) false 0 [])) _
    ⟨0, rfl, by omega, (by first | (simp only [go_sem, Nat.reduceLT, Nat.reduceLeDiff, Nat.reduceEqDiff, Nat.reduceAdd, Nat.reduceSub, Nat.reduceMul, reduceIte, reduceCtorEq] <;> rfl) | fail), (by first | (simp only [go_sem, Nat.reduceLT, Nat.reduceLeDiff, Nat.reduceEqDiff, Nat.reduceAdd, Nat.reduceSub, Nat.reduceMul, reduceIte, reduceCtorEq] <;> rfl) | fail), (by first | (simp only [go_sem, Nat.reduceLT, Nat.reduceLeDiff, Nat.reduceEqDiff, Nat.reduceAdd, Nat.reduceSub, Nat.reduceMul, reduceIte, reduceCtorEq] <;> rfl) | fail), (by first | (simp only [go_sem, Nat.reduceLT, Nat.reduceLeDiff, Nat.reduceEqDiff, Nat.reduceAdd, Nat.reduceSub, Nat.reduceMul, reduceIte, reduceCtorEq] <;> rfl) | fail), by rw [mid_zero]⟩ ?_
  rintro _ fr _ ⟨i, rfl, hi, h3, h8', h9, h10, rfl⟩
  by_cases hil : i < l.length
  · obtain ⟨c, hc⟩ := at_some hil
    have hc8 := h8 c (at_mem hc)
    have e1 : decide ((i : Int) < (l.length : Int)) = true := by simp; omega
    have e2 : (0 : Int) ≤ (i : Int) := by omega
    have e3 : (i : Int) < (l.length : Int) := by omega
    have e4 : IntKind.wrap .i64 ((i : Int) + 1) = ((i + 1 : Nat) : Int) := wrap_i64 (by omega) (by omega)
    have e5 : (bytesAV (mid l i))[i]? = some (.int .u8 c) := by rw [bytesAV_get, mid_get hc]
    have e6 : lay (bytesAV (mid l i)) i [.int .u8 (low c)] = some (bytesAV (mid l (i + 1))) := by rw [lay_byte _ _ _ (by rw [mid_length]; exact hil), mid_set hc]
    by_cases h65 : 65 ≤ c
    · have e7 : decide ((c : Int) ≥ 65) = true := by simp; omega
      by_cases h90 : c ≤ 90
      · have e8 : decide ((c : Int) ≤ 90) = true := by simp; omega
        have e9 := or_low' h65 h90
        simp only [IntKind.bits] at e9
        repeat (first
          | refine sk_seq ?_
          | refine sk_region ?_
          | refine sk_ops_nil ?_
          | refine sk_block ?_
          | refine sk_blk ?_
          | refine sk_skip ?_
          | refine sk_exit rfl ?_
          | ((first | (apply sk_r; rfl; rfl) | (apply sk_w; rfl; rfl) | (apply sk_i; rfl) | (apply sk_g; rfl; rfl)); (simp only [go_sem, Nat.reduceLT, Nat.reduceLeDiff, Nat.reduceEqDiff, Nat.reduceAdd, Nat.reduceSub, Nat.reduceMul, reduceIte, reduceCtorEq, h3, h8', h9, h10, e1, e2, e3, e4, e5, e6, e7, e8, e9, and_self] <;> rfl); (first | refine sk_id ?_ | refine cs_t ?_ | refine cs_f ?_ | refine gs_t rfl ?_ | refine gs_f rfl ?_))
          | (apply sk_w; rfl; rfl; (simp only [go_sem, Nat.reduceLT, Nat.reduceLeDiff, Nat.reduceEqDiff, Nat.reduceAdd, Nat.reduceSub, Nat.reduceMul, reduceIte, reduceCtorEq, h3, h8', h9, h10, e1, e2, e3, e4, e5, e6, e7, e8, e9, and_self] <;> rfl); refine sk_id ?_))
        exact sk_stop ⟨l.length - (i + 1), by omega, i + 1, rfl, by omega, (by first | (simp only [go_sem, Nat.reduceLT, Nat.reduceLeDiff, Nat.reduceEqDiff, Nat.reduceAdd, Nat.reduceSub, Nat.reduceMul, reduceIte, reduceCtorEq, h3] <;> rfl) | fail), (by first | (simp only [go_sem, Nat.reduceLT, Nat.reduceLeDiff, Nat.reduceEqDiff, Nat.reduceAdd, Nat.reduceSub, Nat.reduceMul, reduceIte, reduceCtorEq, h8'] <;> rfl) | fail), (by first | (simp only [go_sem, Nat.reduceLT, Nat.reduceLeDiff, Nat.reduceEqDiff, Nat.reduceAdd, Nat.reduceSub, Nat.reduceMul, reduceIte, reduceCtorEq, h9] <;> rfl) | fail), (by first | (simp only [go_sem, Nat.reduceLT, Nat.reduceLeDiff, Nat.reduceEqDiff, Nat.reduceAdd, Nat.reduceSub, Nat.reduceMul, reduceIte, reduceCtorEq] <;> rfl) | fail), rfl⟩
      · have e8 : decide ((c : Int) ≤ 90) = false := by simp; omega
        repeat (first
          | refine sk_seq ?_
          | refine sk_region ?_
          | refine sk_ops_nil ?_
          | refine sk_block ?_
          | refine sk_blk ?_
          | refine sk_skip ?_
          | refine sk_exit rfl ?_
          | ((first | (apply sk_r; rfl; rfl) | (apply sk_w; rfl; rfl) | (apply sk_i; rfl) | (apply sk_g; rfl; rfl)); (simp only [go_sem, Nat.reduceLT, Nat.reduceLeDiff, Nat.reduceEqDiff, Nat.reduceAdd, Nat.reduceSub, Nat.reduceMul, reduceIte, reduceCtorEq, h3, h8', h9, h10, e1, e2, e3, e4, e5, e6, e7, e8, and_self] <;> rfl); (first | refine sk_id ?_ | refine cs_t ?_ | refine cs_f ?_ | refine gs_t rfl ?_ | refine gs_f rfl ?_))
          | (apply sk_w; rfl; rfl; (simp only [go_sem, Nat.reduceLT, Nat.reduceLeDiff, Nat.reduceEqDiff, Nat.reduceAdd, Nat.reduceSub, Nat.reduceMul, reduceIte, reduceCtorEq, h3, h8', h9, h10, e1, e2, e3, e4, e5, e6, e7, e8, and_self] <;> rfl); refine sk_id ?_))
        exact sk_stop ⟨l.length - (i + 1), by omega, i + 1, rfl, by omega, (by first | (simp only [go_sem, Nat.reduceLT, Nat.reduceLeDiff, Nat.reduceEqDiff, Nat.reduceAdd, Nat.reduceSub, Nat.reduceMul, reduceIte, reduceCtorEq, h3] <;> rfl) | fail), (by first | (simp only [go_sem, Nat.reduceLT, Nat.reduceLeDiff, Nat.reduceEqDiff, Nat.reduceAdd, Nat.reduceSub, Nat.reduceMul, reduceIte, reduceCtorEq, h8'] <;> rfl) | fail), (by first | (simp only [go_sem, Nat.reduceLT, Nat.reduceLeDiff, Nat.reduceEqDiff, Nat.reduceAdd, Nat.reduceSub, Nat.reduceMul, reduceIte, reduceCtorEq, h9] <;> rfl) | fail), (by first | (simp only [go_sem, Nat.reduceLT, Nat.reduceLeDiff, Nat.reduceEqDiff, Nat.reduceAdd, Nat.reduceSub, Nat.reduceMul, reduceIte, reduceCtorEq] <;> rfl) | fail), by rw [mid_same hc (low_up (by omega))]⟩
    · have e7 : decide ((c : Int) ≥ 65) = false := by simp; omega
      repeat (first
        | refine sk_seq ?_
        | refine sk_region ?_
        | refine sk_ops_nil ?_
        | refine sk_block ?_
        | refine sk_blk ?_
        | refine sk_skip ?_
        | refine sk_exit rfl ?_
        | ((first | (apply sk_r; rfl; rfl) | (apply sk_w; rfl; rfl) | (apply sk_i; rfl) | (apply sk_g; rfl; rfl)); (simp only [go_sem, Nat.reduceLT, Nat.reduceLeDiff, Nat.reduceEqDiff, Nat.reduceAdd, Nat.reduceSub, Nat.reduceMul, reduceIte, reduceCtorEq, h3, h8', h9, h10, e1, e2, e3, e4, e5, e6, e7, and_self] <;> rfl); (first | refine sk_id ?_ | refine cs_t ?_ | refine cs_f ?_ | refine gs_t rfl ?_ | refine gs_f rfl ?_))
        | (apply sk_w; rfl; rfl; (simp only [go_sem, Nat.reduceLT, Nat.reduceLeDiff, Nat.reduceEqDiff, Nat.reduceAdd, Nat.reduceSub, Nat.reduceMul, reduceIte, reduceCtorEq, h3, h8', h9, h10, e1, e2, e3, e4, e5, e6, e7, and_self] <;> rfl); refine sk_id ?_))
      exact sk_stop ⟨l.length - (i + 1), by omega, i + 1, rfl, by omega, (by first | (simp only [go_sem, Nat.reduceLT, Nat.reduceLeDiff, Nat.reduceEqDiff, Nat.reduceAdd, Nat.reduceSub, Nat.reduceMul, reduceIte, reduceCtorEq, h3] <;> rfl) | fail), (by first | (simp only [go_sem, Nat.reduceLT, Nat.reduceLeDiff, Nat.reduceEqDiff, Nat.reduceAdd, Nat.reduceSub, Nat.reduceMul, reduceIte, reduceCtorEq, h8'] <;> rfl) | fail), (by first | (simp only [go_sem, Nat.reduceLT, Nat.reduceLeDiff, Nat.reduceEqDiff, Nat.reduceAdd, Nat.reduceSub, Nat.reduceMul, reduceIte, reduceCtorEq, h9] <;> rfl) | fail), (by first | (simp only [go_sem, Nat.reduceLT, Nat.reduceLeDiff, Nat.reduceEqDiff, Nat.reduceAdd, Nat.reduceSub, Nat.reduceMul, reduceIte, reduceCtorEq] <;> rfl) | fail), by rw [mid_same hc (low_up (by omega))]⟩
  · have e1 : decide ((i : Int) < (l.length : Int)) = false := by simp; omega
    rw [mid_end (by omega)]
    repeat (first
      | refine sk_rd rfl (rd_conv_bytes (l := l.map low) (n := l.length) (b := σ.next) (by first | (simp only [go_sem, Nat.reduceLT, Nat.reduceLeDiff, Nat.reduceEqDiff, Nat.reduceAdd, Nat.reduceSub, Nat.reduceMul, reduceIte, reduceCtorEq, h3, h8', h9, h10, e1] <;> rfl) | fail) (by first | (simp only [go_sem, Nat.reduceLT, Nat.reduceLeDiff, Nat.reduceEqDiff, Nat.reduceAdd, Nat.reduceSub, Nat.reduceMul, reduceIte, reduceCtorEq, h3, h8', h9, h10, e1] <;> rfl) | fail) (by first | (simp only [go_sem, Nat.reduceLT, Nat.reduceLeDiff, Nat.reduceEqDiff, Nat.reduceAdd, Nat.reduceSub, Nat.reduceMul, reduceIte, reduceCtorEq, h3, h8', h9, h10, e1] <;> rfl) | fail) (by first | (simp only [go_sem, Nat.reduceLT, Nat.reduceLeDiff, Nat.reduceEqDiff, Nat.reduceAdd, Nat.reduceSub, Nat.reduceMul, reduceIte, reduceCtorEq, h3, h8', h9, h10, e1] <;> rfl) | fail) (get_push_same _ _) rfl (List.length_map _).symm (fun x hx => by obtain ⟨y, hy, rfl⟩ := List.mem_map.1 hx; exact low_lt (h8 y hy))) ?_
      | refine sk_seq ?_
      | refine sk_region ?_
      | refine sk_ops_nil ?_
      | refine sk_block ?_
      | refine sk_blk ?_
      | refine sk_skip ?_
      | refine sk_exit rfl ?_
      | ((first | (apply sk_r; rfl; rfl) | (apply sk_w; rfl; rfl) | (apply sk_i; rfl) | (apply sk_g; rfl; rfl)); (simp only [go_sem, Nat.reduceLT, Nat.reduceLeDiff, Nat.reduceEqDiff, Nat.reduceAdd, Nat.reduceSub, Nat.reduceMul, reduceIte, reduceCtorEq, h3, h8', h9, h10, e1] <;> rfl); (first | refine sk_id ?_ | refine cs_t ?_ | refine cs_f ?_ | refine gs_t rfl ?_ | refine gs_f rfl ?_))
      | (apply sk_w; rfl; rfl; (simp only [go_sem, Nat.reduceLT, Nat.reduceLeDiff, Nat.reduceEqDiff, Nat.reduceAdd, Nat.reduceSub, Nat.reduceMul, reduceIte, reduceCtorEq, h3, h8', h9, h10, e1] <;> rfl); refine sk_id ?_))
    exact sk_ret ⟨_, (by first | (simp only [aRet, Tryd.results32, aResults, aResult, go_sem, Nat.reduceLT, Nat.reduceLeDiff, Nat.reduceEqDiff, Nat.reduceAdd, Nat.reduceSub, Nat.reduceMul, reduceIte, reduceCtorEq] <;> rfl) | fail), rfl, fun b x h => by rw [get_push, if_neg (by have := wf_lt hW h; omega)]; exact h, rfl, rfl⟩
end Go.Proofs.YtophnlmdcidolaaDoor
namespace Go.Proofs.YtophnlmdcidolaaDoor
open Go Go.Am
set_option maxHeartbeats 8000000
set_option maxRecDepth 100000

theorem byteTy40 : ByteTy Tryd.prog 67 := ⟨5, (Tryd.prog.info? 5).get (by kernel_rfl), _, Tryd.underlying67, (Option.some_get _).symm, by kernel_rfl, by kernel_rfl, zo5, by kernel_rfl⟩

@[go_sem] theorem bs40 (σ : AHeap) (x : Int) : aBuildSlice Tryd.prog σ 67 1 [(0, .int .u8 x)] = some (.slice σ.next 0 1 1 true 1, σ.push (.cells [.int .u8 x] false 0 [])) := by kernel_rfl

theorem f20_tr (c : Nat) (σ : AHeap) : Tr Tryd.prog 20 [.int .u8 c] σ fun v σ' => v = .bool (isIn [9, 10, 12, 13, 32] c) ∧ σ' = σ := by
  refine sk_body (m := 21) Tryd.func20 rfl (by decide) rfl ?_
  by_cases h1 : c = 9
  · subst h1
    repeat (first
      | refine sk_seq ?_
      | refine sk_region ?_
      | refine sk_ops_nil ?_
      | refine sk_block ?_
      | refine sk_blk ?_
      | refine sk_skip ?_
      | refine sk_exit rfl ?_
      | ((first | (apply sk_r; rfl; rfl) | (apply sk_w; rfl; rfl) | (apply sk_i; rfl) | (apply sk_g; rfl; rfl)); (simp only [go_sem, Nat.reduceLT, Nat.reduceLeDiff, Nat.reduceEqDiff, Nat.reduceAdd, Nat.reduceSub, Nat.reduceMul, reduceIte, reduceCtorEq] <;> rfl); (first | refine sk_id ?_ | refine cs_t ?_ | refine cs_f ?_ | refine gs_t rfl ?_ | refine gs_f rfl ?_)))
    exact sk_ret ⟨_, (by first | (simp only [aRet, Tryd.results20, aResults, aResult, go_sem, Nat.reduceLT, Nat.reduceLeDiff, Nat.reduceEqDiff, Nat.reduceAdd, Nat.reduceSub, Nat.reduceMul, reduceIte, reduceCtorEq] <;> rfl) | fail), rfl, rfl⟩
  have e1 : ((c : Int) == 9) = false := by simp; omega
  by_cases h2 : c = 10
  · subst h2
    repeat (first
      | refine sk_seq ?_
      | refine sk_region ?_
      | refine sk_ops_nil ?_
      | refine sk_block ?_
      | refine sk_blk ?_
      | refine sk_skip ?_
      | refine sk_exit rfl ?_
      | ((first | (apply sk_r; rfl; rfl) | (apply sk_w; rfl; rfl) | (apply sk_i; rfl) | (apply sk_g; rfl; rfl)); (simp only [go_sem, Nat.reduceLT, Nat.reduceLeDiff, Nat.reduceEqDiff, Nat.reduceAdd, Nat.reduceSub, Nat.reduceMul, reduceIte, reduceCtorEq] <;> rfl); (first | refine sk_id ?_ | refine cs_t ?_ | refine cs_f ?_ | refine gs_t rfl ?_ | refine gs_f rfl ?_)))
    exact sk_ret ⟨_, (by first | (simp only [aRet, Tryd.results20, aResults, aResult, go_sem, Nat.reduceLT, Nat.reduceLeDiff, Nat.reduceEqDiff, Nat.reduceAdd, Nat.reduceSub, Nat.reduceMul, reduceIte, reduceCtorEq] <;> rfl) | fail), rfl, rfl⟩
  have e2 : ((c : Int) == 10) = false := by simp; omega
  by_cases h3 : c = 12
  · subst h3
    repeat (first
      | refine sk_seq ?_
      | refine sk_region ?_
      | refine sk_ops_nil ?_
      | refine sk_block ?_
      | refine sk_blk ?_
      | refine sk_skip ?_
      | refine sk_exit rfl ?_
      | ((first | (apply sk_r; rfl; rfl) | (apply sk_w; rfl; rfl) | (apply sk_i; rfl) | (apply sk_g; rfl; rfl)); (simp only [go_sem, Nat.reduceLT, Nat.reduceLeDiff, Nat.reduceEqDiff, Nat.reduceAdd, Nat.reduceSub, Nat.reduceMul, reduceIte, reduceCtorEq] <;> rfl); (first | refine sk_id ?_ | refine cs_t ?_ | refine cs_f ?_ | refine gs_t rfl ?_ | refine gs_f rfl ?_)))
    exact sk_ret ⟨_, (by first | (simp only [aRet, Tryd.results20, aResults, aResult, go_sem, Nat.reduceLT, Nat.reduceLeDiff, Nat.reduceEqDiff, Nat.reduceAdd, Nat.reduceSub, Nat.reduceMul, reduceIte, reduceCtorEq] <;> rfl) | fail), rfl, rfl⟩
  have e3 : ((c : Int) == 12) = false := by simp; omega
  by_cases h4 : c = 13
  · subst h4
    repeat (first
      | refine sk_seq ?_
      | refine sk_region ?_
      | refine sk_ops_nil ?_
      | refine sk_block ?_
      | refine sk_blk ?_
      | refine sk_skip ?_
      | refine sk_exit rfl ?_
      | ((first | (apply sk_r; rfl; rfl) | (apply sk_w; rfl; rfl) | (apply sk_i; rfl) | (apply sk_g; rfl; rfl)); (simp only [go_sem, Nat.reduceLT, Nat.reduceLeDiff, Nat.reduceEqDiff, Nat.reduceAdd, Nat.reduceSub, Nat.reduceMul, reduceIte, reduceCtorEq] <;> rfl); (first | refine sk_id ?_ | refine cs_t ?_ | refine cs_f ?_ | refine gs_t rfl ?_ | refine gs_f rfl ?_)))
    exact sk_ret ⟨_, (by first | (simp only [aRet, Tryd.results20, aResults, aResult, go_sem, Nat.reduceLT, Nat.reduceLeDiff, Nat.reduceEqDiff, Nat.reduceAdd, Nat.reduceSub, Nat.reduceMul, reduceIte, reduceCtorEq] <;> rfl) | fail), rfl, rfl⟩
  have e4 : ((c : Int) == 13) = false := by simp; omega
  by_cases h5 : c = 32
  · subst h5
    repeat (first
      | refine sk_seq ?_
      | refine sk_region ?_
      | refine sk_ops_nil ?_
      | refine sk_block ?_
      | refine sk_blk ?_
      | refine sk_skip ?_
      | refine sk_exit rfl ?_
      | ((first | (apply sk_r; rfl; rfl) | (apply sk_w; rfl; rfl) | (apply sk_i; rfl) | (apply sk_g; rfl; rfl)); (simp only [go_sem, Nat.reduceLT, Nat.reduceLeDiff, Nat.reduceEqDiff, Nat.reduceAdd, Nat.reduceSub, Nat.reduceMul, reduceIte, reduceCtorEq] <;> rfl); (first | refine sk_id ?_ | refine cs_t ?_ | refine cs_f ?_ | refine gs_t rfl ?_ | refine gs_f rfl ?_)))
    exact sk_ret ⟨_, (by first | (simp only [aRet, Tryd.results20, aResults, aResult, go_sem, Nat.reduceLT, Nat.reduceLeDiff, Nat.reduceEqDiff, Nat.reduceAdd, Nat.reduceSub, Nat.reduceMul, reduceIte, reduceCtorEq] <;> rfl) | fail), rfl, rfl⟩
  have e5 : ((c : Int) == 32) = false := by simp; omega
  have e6 : isIn [9, 10, 12, 13, 32] c = false := by
    cases e : isIn [9, 10, 12, 13, 32] c
    · rfl
    · rw [isIn_iff] at e; simp at e; omega
  repeat (first
    | refine sk_seq ?_
    | refine sk_region ?_
    | refine sk_ops_nil ?_
    | refine sk_block ?_
    | refine sk_blk ?_
    | refine sk_skip ?_
    | refine sk_exit rfl ?_
    | ((first | (apply sk_r; rfl; rfl) | (apply sk_w; rfl; rfl) | (apply sk_i; rfl) | (apply sk_g; rfl; rfl)); (simp only [go_sem, Nat.reduceLT, Nat.reduceLeDiff, Nat.reduceEqDiff, Nat.reduceAdd, Nat.reduceSub, Nat.reduceMul, reduceIte, reduceCtorEq, e1, e2, e3, e4, e5] <;> rfl); (first | refine sk_id ?_ | refine cs_t ?_ | refine cs_f ?_ | refine gs_t rfl ?_ | refine gs_f rfl ?_)))
  exact sk_ret ⟨_, (by first | (simp only [aRet, Tryd.results20, aResults, aResult, go_sem, Nat.reduceLT, Nat.reduceLeDiff, Nat.reduceEqDiff, Nat.reduceAdd, Nat.reduceSub, Nat.reduceMul, reduceIte, reduceCtorEq] <;> rfl) | fail), by rw [e6], rfl⟩

theorem f24_tr (l : List Nat) (h8 : ∀ c ∈ l, c < 256) (hl : l.length ≤ 140737488355327) (σ : AHeap) : Tr Tryd.prog 24 [.str l] σ fun v σ' => v = .str (l.map low) ∧ σ' = σ := by
  refine Tr.wf fun hW => Tr.pure ?_
  refine sk_body (m := 29) Tryd.func24 rfl (by decide) rfl ?_
  repeat (first
    | refine sk_seq ?_
    | refine sk_region ?_
    | refine sk_ops_nil ?_
    | refine sk_block ?_
    | refine sk_blk ?_
    | refine sk_skip ?_
    | refine sk_exit rfl ?_
    | ((first | (apply sk_r; rfl; rfl) | (apply sk_w; rfl; rfl) | (apply sk_i; rfl) | (apply sk_g; rfl; rfl)); (simp only [go_sem, Nat.reduceLT, Nat.reduceLeDiff, Nat.reduceEqDiff, Nat.reduceAdd, Nat.reduceSub, Nat.reduceMul, reduceIte, reduceCtorEq] <;> rfl); (first | refine sk_id ?_ | refine cs_t ?_ | refine cs_f ?_ | refine gs_t rfl ?_ | refine gs_f rfl ?_)))
  refine sk_loop (fun m fr σ' => ∃ i, m = l.length - i ∧ i ≤ l.length ∧ fget fr 0 = .str l ∧ fget fr 4 = .int .i64 (i : Nat) ∧ σ.next ≤ σ'.next ∧ (∀ b x, σ.m.get b = some x → σ'.m.get b = some x) ∧
    ((i = 0 ∧ fget fr 3 = .nilslice) ∨ (0 < i ∧ ∃ k, σ.next ≤ k ∧ k < σ'.next ∧ fget fr 3 = .slice k 0 i i false 1 ∧ σ'.m.get k = some (.cells (bytesAV ((l.take i).map low)) false 0 [])))) _
    ⟨0, rfl, by omega, (by first | (simp only [go_sem, Nat.reduceLT, Nat.reduceLeDiff, Nat.reduceEqDiff, Nat.reduceAdd, Nat.reduceSub, Nat.reduceMul, reduceIte, reduceCtorEq] <;> rfl) | fail), (by first | (simp only [go_sem, Nat.reduceLT, Nat.reduceLeDiff, Nat.reduceEqDiff, Nat.reduceAdd, Nat.reduceSub, Nat.reduceMul, reduceIte, reduceCtorEq] <;> rfl) | fail), by omega, fun _ _ h => h, .inl ⟨rfl, (by first | (simp only [go_sem, Nat.reduceLT, Nat.reduceLeDiff, Nat.reduceEqDiff, Nat.reduceAdd, Nat.reduceSub, Nat.reduceMul, reduceIte, reduceCtorEq] <;> rfl) | fail)⟩⟩ ?_
  rintro _ fr σ1 ⟨i, rfl, hi, h0, h4, hn, hk, hst⟩
  by_cases hil : i < l.length
  · obtain ⟨c, hc⟩ := at_some hil
    have hc8 := h8 c (at_mem hc)
    have e1 : decide ((i : Int) < (l.length : Int)) = true := by simp; omega
    have e2 : (0 : Int) ≤ (i : Int) := by omega
    have e4 : IntKind.wrap .i64 ((i : Int) + 1) = ((i + 1 : Nat) : Int) := wrap_i64 (by omega) (by omega)
    by_cases h65 : 64 < c
    · have e7 : decide ((c : Int) > 64) = true := by simp; omega
      by_cases h90 : c < 91
      · have e8 : decide ((c : Int) < 91) = true := by simp; omega
        have e9 := add_low (c := c) (by omega) (by omega)
        rcases hst with ⟨rfl, h3⟩ | ⟨hi0, k, hk1, hk2, h3, hkg⟩
        · have a1 := append_first (σ := σ1.push (.cells [.int .u8 (low c : Nat)] false 0 [])) byteTy40 (get_push_same σ1 (.cells [.int .u8 (low c : Nat)] false 0 []))
          simp only [next_push] at a1
          repeat (first
            | refine sk_seq ?_
            | refine sk_region ?_
            | refine sk_ops_nil ?_
            | refine sk_block ?_
            | refine sk_blk ?_
            | refine sk_skip ?_
            | refine sk_exit rfl ?_
            | ((first | (apply sk_r; rfl; rfl) | (apply sk_w; rfl; rfl) | (apply sk_i; rfl) | (apply sk_g; rfl; rfl)); (simp only [go_sem, Nat.reduceLT, Nat.reduceLeDiff, Nat.reduceEqDiff, Nat.reduceAdd, Nat.reduceSub, Nat.reduceMul, reduceIte, reduceCtorEq, h0, h3, h4, e1, e2, e4, e7, e8, e9, hc, a1] <;> rfl); (first | refine sk_id ?_ | refine cs_t ?_ | refine cs_f ?_ | refine gs_t rfl ?_ | refine gs_f rfl ?_)))
          exact sk_stop ⟨l.length - (0 + 1), by omega, 0 + 1, rfl, by omega, (by first | (simp only [go_sem, Nat.reduceLT, Nat.reduceLeDiff, Nat.reduceEqDiff, Nat.reduceAdd, Nat.reduceSub, Nat.reduceMul, reduceIte, reduceCtorEq, h0] <;> rfl) | fail), (by first | (simp only [go_sem, Nat.reduceLT, Nat.reduceLeDiff, Nat.reduceEqDiff, Nat.reduceAdd, Nat.reduceSub, Nat.reduceMul, reduceIte, reduceCtorEq] <;> rfl) | fail), by simp only [next_push]; omega, fun b x h => by
            have := wf_lt hW h
            rw [get_push, if_neg (by rw [next_push]; omega), get_push, if_neg (by omega)]; exact hk b x h, .inr ⟨by omega, σ1.next + 1, by omega, by simp only [next_push]; omega, (by first | (simp only [go_sem, Nat.reduceLT, Nat.reduceLeDiff, Nat.reduceEqDiff, Nat.reduceAdd, Nat.reduceSub, Nat.reduceMul, reduceIte, reduceCtorEq] <;> rfl) | fail), by
            rw [take_low hc]; exact get_push_same (σ1.push (.cells [.int .u8 (low c : Nat)] false 0 [])) _⟩⟩
        · have a1 := append_next (σ := σ1.push (.cells [.int .u8 (low c : Nat)] false 0 [])) (b := k) (n := i) (xs := bytesAV ((l.take i).map low)) byteTy40 (get_push_same σ1 (.cells [.int .u8 (low c : Nat)] false 0 [])) (by rw [get_push, if_neg (by omega)]; exact hkg) (by rw [bytesAV_length, List.length_map, List.length_take]; omega) hi0 (by omega) rfl
          simp only [next_push] at a1
          repeat (first
            | refine sk_seq ?_
            | refine sk_region ?_
            | refine sk_ops_nil ?_
            | refine sk_block ?_
            | refine sk_blk ?_
            | refine sk_skip ?_
            | refine sk_exit rfl ?_
            | ((first | (apply sk_r; rfl; rfl) | (apply sk_w; rfl; rfl) | (apply sk_i; rfl) | (apply sk_g; rfl; rfl)); (simp only [go_sem, Nat.reduceLT, Nat.reduceLeDiff, Nat.reduceEqDiff, Nat.reduceAdd, Nat.reduceSub, Nat.reduceMul, reduceIte, reduceCtorEq, h0, h3, h4, e1, e2, e4, e7, e8, e9, hc, a1] <;> rfl); (first | refine sk_id ?_ | refine cs_t ?_ | refine cs_f ?_ | refine gs_t rfl ?_ | refine gs_f rfl ?_)))
          have g := get_move (σ1.push (.cells [.int .u8 (low c : Nat)] false 0 [])).m k (σ1.next + 1)
          exact sk_stop ⟨l.length - (i + 1), by omega, i + 1, rfl, by omega, (by first | (simp only [go_sem, Nat.reduceLT, Nat.reduceLeDiff, Nat.reduceEqDiff, Nat.reduceAdd, Nat.reduceSub, Nat.reduceMul, reduceIte, reduceCtorEq, h0] <;> rfl) | fail), (by first | (simp only [go_sem, Nat.reduceLT, Nat.reduceLeDiff, Nat.reduceEqDiff, Nat.reduceAdd, Nat.reduceSub, Nat.reduceMul, reduceIte, reduceCtorEq] <;> rfl) | fail), by show σ.next ≤ σ1.next + 1 + 1; omega, fun b x h => by
            have := wf_lt hW h
            rw [g, if_neg (by omega), if_neg (by omega), get_push, if_neg (by omega)]; exact hk b x h, .inr ⟨by omega, σ1.next + 1, by omega, by show σ1.next + 1 < σ1.next + 1 + 1; omega, (by first | (simp only [go_sem, Nat.reduceLT, Nat.reduceLeDiff, Nat.reduceEqDiff, Nat.reduceAdd, Nat.reduceSub, Nat.reduceMul, reduceIte, reduceCtorEq] <;> rfl) | fail), by
            rw [take_low hc, bytesAV_append, g, if_pos rfl]; rfl⟩⟩
      · have e8 : decide ((c : Int) < 91) = false := by simp; omega
        have e9 : low c = c := low_up (by omega)
        rcases hst with ⟨rfl, h3⟩ | ⟨hi0, k, hk1, hk2, h3, hkg⟩
        · have a1 := append_first (σ := σ1.push (.cells [.int .u8 (c : Nat)] false 0 [])) byteTy40 (get_push_same σ1 (.cells [.int .u8 (c : Nat)] false 0 []))
          simp only [next_push] at a1
          repeat (first
            | refine sk_seq ?_
            | refine sk_region ?_
            | refine sk_ops_nil ?_
            | refine sk_block ?_
            | refine sk_blk ?_
            | refine sk_skip ?_
            | refine sk_exit rfl ?_
            | ((first | (apply sk_r; rfl; rfl) | (apply sk_w; rfl; rfl) | (apply sk_i; rfl) | (apply sk_g; rfl; rfl)); (simp only [go_sem, Nat.reduceLT, Nat.reduceLeDiff, Nat.reduceEqDiff, Nat.reduceAdd, Nat.reduceSub, Nat.reduceMul, reduceIte, reduceCtorEq, h0, h3, h4, e1, e2, e4, e7, e8, hc, a1] <;> rfl); (first | refine sk_id ?_ | refine cs_t ?_ | refine cs_f ?_ | refine gs_t rfl ?_ | refine gs_f rfl ?_)))
          exact sk_stop ⟨l.length - (0 + 1), by omega, 0 + 1, rfl, by omega, (by first | (simp only [go_sem, Nat.reduceLT, Nat.reduceLeDiff, Nat.reduceEqDiff, Nat.reduceAdd, Nat.reduceSub, Nat.reduceMul, reduceIte, reduceCtorEq, h0] <;> rfl) | fail), (by first | (simp only [go_sem, Nat.reduceLT, Nat.reduceLeDiff, Nat.reduceEqDiff, Nat.reduceAdd, Nat.reduceSub, Nat.reduceMul, reduceIte, reduceCtorEq] <;> rfl) | fail), by simp only [next_push]; omega, fun b x h => by
            have := wf_lt hW h
            rw [get_push, if_neg (by rw [next_push]; omega), get_push, if_neg (by omega)]; exact hk b x h, .inr ⟨by omega, σ1.next + 1, by omega, by simp only [next_push]; omega, (by first | (simp only [go_sem, Nat.reduceLT, Nat.reduceLeDiff, Nat.reduceEqDiff, Nat.reduceAdd, Nat.reduceSub, Nat.reduceMul, reduceIte, reduceCtorEq] <;> rfl) | fail), by
            rw [take_low hc, e9]; exact get_push_same (σ1.push (.cells [.int .u8 (c : Nat)] false 0 [])) _⟩⟩
        · have a1 := append_next (σ := σ1.push (.cells [.int .u8 (c : Nat)] false 0 [])) (b := k) (n := i) (xs := bytesAV ((l.take i).map low)) byteTy40 (get_push_same σ1 (.cells [.int .u8 (c : Nat)] false 0 [])) (by rw [get_push, if_neg (by omega)]; exact hkg) (by rw [bytesAV_length, List.length_map, List.length_take]; omega) hi0 (by omega) rfl
          simp only [next_push] at a1
          repeat (first
            | refine sk_seq ?_
            | refine sk_region ?_
            | refine sk_ops_nil ?_
            | refine sk_block ?_
            | refine sk_blk ?_
            | refine sk_skip ?_
            | refine sk_exit rfl ?_
            | ((first | (apply sk_r; rfl; rfl) | (apply sk_w; rfl; rfl) | (apply sk_i; rfl) | (apply sk_g; rfl; rfl)); (simp only [go_sem, Nat.reduceLT, Nat.reduceLeDiff, Nat.reduceEqDiff, Nat.reduceAdd, Nat.reduceSub, Nat.reduceMul, reduceIte, reduceCtorEq, h0, h3, h4, e1, e2, e4, e7, e8, hc, a1] <;> rfl); (first | refine sk_id ?_ | refine cs_t ?_ | refine cs_f ?_ | refine gs_t rfl ?_ | refine gs_f rfl ?_)))
          have g := get_move (σ1.push (.cells [.int .u8 (c : Nat)] false 0 [])).m k (σ1.next + 1)
          exact sk_stop ⟨l.length - (i + 1), by omega, i + 1, rfl, by omega, (by first | (simp only [go_sem, Nat.reduceLT, Nat.reduceLeDiff, Nat.reduceEqDiff, Nat.reduceAdd, Nat.reduceSub, Nat.reduceMul, reduceIte, reduceCtorEq, h0] <;> rfl) | fail), (by first | (simp only [go_sem, Nat.reduceLT, Nat.reduceLeDiff, Nat.reduceEqDiff, Nat.reduceAdd, Nat.reduceSub, Nat.reduceMul, reduceIte, reduceCtorEq] <;> rfl) | fail), by show σ.next ≤ σ1.next + 1 + 1; omega, fun b x h => by
            have := wf_lt hW h
            rw [g, if_neg (by omega), if_neg (by omega), get_push, if_neg (by omega)]; exact hk b x h, .inr ⟨by omega, σ1.next + 1, by omega, by show σ1.next + 1 < σ1.next + 1 + 1; omega, (by first | (simp only [go_sem, Nat.reduceLT, Nat.reduceLeDiff, Nat.reduceEqDiff, Nat.reduceAdd, Nat.reduceSub, Nat.reduceMul, reduceIte, reduceCtorEq] <;> rfl) | fail), by
            rw [take_low hc, e9, bytesAV_append, g, if_pos rfl]; rfl⟩⟩
    · have e7 : decide ((c : Int) > 64) = false := by simp; omega
      have e9 : low c = c := low_up (by omega)
      rcases hst with ⟨rfl, h3⟩ | ⟨hi0, k, hk1, hk2, h3, hkg⟩
      · have a1 := append_first (σ := σ1.push (.cells [.int .u8 (c : Nat)] false 0 [])) byteTy40 (get_push_same σ1 (.cells [.int .u8 (c : Nat)] false 0 []))
        simp only [next_push] at a1
        repeat (first
          | refine sk_seq ?_
          | refine sk_region ?_
          | refine sk_ops_nil ?_
          | refine sk_block ?_
          | refine sk_blk ?_
          | refine sk_skip ?_
          | refine sk_exit rfl ?_
          | ((first | (apply sk_r; rfl; rfl) | (apply sk_w; rfl; rfl) | (apply sk_i; rfl) | (apply sk_g; rfl; rfl)); (simp only [go_sem, Nat.reduceLT, Nat.reduceLeDiff, Nat.reduceEqDiff, Nat.reduceAdd, Nat.reduceSub, Nat.reduceMul, reduceIte, reduceCtorEq, h0, h3, h4, e1, e2, e4, e7, hc, a1] <;> rfl); (first | refine sk_id ?_ | refine cs_t ?_ | refine cs_f ?_ | refine gs_t rfl ?_ | refine gs_f rfl ?_)))
        exact sk_stop ⟨l.length - (0 + 1), by omega, 0 + 1, rfl, by omega, (by first | (simp only [go_sem, Nat.reduceLT, Nat.reduceLeDiff, Nat.reduceEqDiff, Nat.reduceAdd, Nat.reduceSub, Nat.reduceMul, reduceIte, reduceCtorEq, h0] <;> rfl) | fail), (by first | (simp only [go_sem, Nat.reduceLT, Nat.reduceLeDiff, Nat.reduceEqDiff, Nat.reduceAdd, Nat.reduceSub, Nat.reduceMul, reduceIte, reduceCtorEq] <;> rfl) | fail), by simp only [next_push]; omega, fun b x h => by
          have := wf_lt hW h
          rw [get_push, if_neg (by rw [next_push]; omega), get_push, if_neg (by omega)]; exact hk b x h, .inr ⟨by omega, σ1.next + 1, by omega, by simp only [next_push]; omega, (by first | (simp only [go_sem, Nat.reduceLT, Nat.reduceLeDiff, Nat.reduceEqDiff, Nat.reduceAdd, Nat.reduceSub, Nat.reduceMul, reduceIte, reduceCtorEq] <;> rfl) | fail), by
          rw [take_low hc, e9]; exact get_push_same (σ1.push (.cells [.int .u8 (c : Nat)] false 0 [])) _⟩⟩
      · have a1 := append_next (σ := σ1.push (.cells [.int .u8 (c : Nat)] false 0 [])) (b := k) (n := i) (xs := bytesAV ((l.take i).map low)) byteTy40 (get_push_same σ1 (.cells [.int .u8 (c : Nat)] false 0 [])) (by rw [get_push, if_neg (by omega)]; exact hkg) (by rw [bytesAV_length, List.length_map, List.length_take]; omega) hi0 (by omega) rfl
        simp only [next_push] at a1
        repeat (first
          | refine sk_seq ?_
          | refine sk_region ?_
          | refine sk_ops_nil ?_
          | refine sk_block ?_
          | refine sk_blk ?_
          | refine sk_skip ?_
          | refine sk_exit rfl ?_
          | ((first | (apply sk_r; rfl; rfl) | (apply sk_w; rfl; rfl) | (apply sk_i; rfl) | (apply sk_g; rfl; rfl)); (simp only [go_sem, Nat.reduceLT, Nat.reduceLeDiff, Nat.reduceEqDiff, Nat.reduceAdd, Nat.reduceSub, Nat.reduceMul, reduceIte, reduceCtorEq, h0, h3, h4, e1, e2, e4, e7, hc, a1] <;> rfl); (first | refine sk_id ?_ | refine cs_t ?_ | refine cs_f ?_ | refine gs_t rfl ?_ | refine gs_f rfl ?_)))
        have g := get_move (σ1.push (.cells [.int .u8 (c : Nat)] false 0 [])).m k (σ1.next + 1)
        exact sk_stop ⟨l.length - (i + 1), by omega, i + 1, rfl, by omega, (by first | (simp only [go_sem, Nat.reduceLT, Nat.reduceLeDiff, Nat.reduceEqDiff, Nat.reduceAdd, Nat.reduceSub, Nat.reduceMul, reduceIte, reduceCtorEq, h0] <;> rfl) | fail), (by first | (simp only [go_sem, Nat.reduceLT, Nat.reduceLeDiff, Nat.reduceEqDiff, Nat.reduceAdd, Nat.reduceSub, Nat.reduceMul, reduceIte, reduceCtorEq] <;> rfl) | fail), by show σ.next ≤ σ1.next + 1 + 1; omega, fun b x h => by
          have := wf_lt hW h
          rw [g, if_neg (by omega), if_neg (by omega), get_push, if_neg (by omega)]; exact hk b x h, .inr ⟨by omega, σ1.next + 1, by omega, by show σ1.next + 1 < σ1.next + 1 + 1; omega, (by first | (simp only [go_sem, Nat.reduceLT, Nat.reduceLeDiff, Nat.reduceEqDiff, Nat.reduceAdd, Nat.reduceSub, Nat.reduceMul, reduceIte, reduceCtorEq] <;> rfl) | fail), by
          rw [take_low hc, e9, bytesAV_append, g, if_pos rfl]; rfl⟩⟩
  · have e1 : decide ((i : Int) < (l.length : Int)) = false := by simp; omega
    obtain rfl : i = l.length := by omega
    rcases hst with ⟨hi0, h3⟩ | ⟨hi0, k, hk1, hk2, h3, hkg⟩
    · obtain rfl : l = [] := List.length_eq_zero_iff.1 hi0
      repeat (first
        | refine sk_seq ?_
        | refine sk_region ?_
        | refine sk_ops_nil ?_
        | refine sk_block ?_
        | refine sk_blk ?_
        | refine sk_skip ?_
        | refine sk_exit rfl ?_
        | ((first | (apply sk_r; rfl; rfl) | (apply sk_w; rfl; rfl) | (apply sk_i; rfl) | (apply sk_g; rfl; rfl)); (simp only [go_sem, Nat.reduceLT, Nat.reduceLeDiff, Nat.reduceEqDiff, Nat.reduceAdd, Nat.reduceSub, Nat.reduceMul, reduceIte, reduceCtorEq, h0, h3, h4, e1] <;> rfl); (first | refine sk_id ?_ | refine cs_t ?_ | refine cs_f ?_ | refine gs_t rfl ?_ | refine gs_f rfl ?_)))
      exact sk_ret ⟨_, (by first | (simp only [aRet, Tryd.results24, aResults, aResult, go_sem, Nat.reduceLT, Nat.reduceLeDiff, Nat.reduceEqDiff, Nat.reduceAdd, Nat.reduceSub, Nat.reduceMul, reduceIte, reduceCtorEq] <;> rfl) | fail), rfl, fun b x h => hk b x h, rfl, rfl⟩
    · rw [List.take_length] at hkg
      repeat (first
        | refine sk_rd rfl (rd_conv_bytes (l := l.map low) (n := l.length) (b := k) (by first | (simp only [go_sem, Nat.reduceLT, Nat.reduceLeDiff, Nat.reduceEqDiff, Nat.reduceAdd, Nat.reduceSub, Nat.reduceMul, reduceIte, reduceCtorEq, h0, h3, h4, e1] <;> rfl) | fail) (by first | (simp only [go_sem, Nat.reduceLT, Nat.reduceLeDiff, Nat.reduceEqDiff, Nat.reduceAdd, Nat.reduceSub, Nat.reduceMul, reduceIte, reduceCtorEq, h0, h3, h4, e1] <;> rfl) | fail) (by first | (simp only [go_sem, Nat.reduceLT, Nat.reduceLeDiff, Nat.reduceEqDiff, Nat.reduceAdd, Nat.reduceSub, Nat.reduceMul, reduceIte, reduceCtorEq, h0, h3, h4, e1] <;> rfl) | fail) (by first | (simp only [go_sem, Nat.reduceLT, Nat.reduceLeDiff, Nat.reduceEqDiff, Nat.reduceAdd, Nat.reduceSub, Nat.reduceMul, reduceIte, reduceCtorEq, h0, h3, h4, e1] <;> rfl) | fail) hkg rfl (List.length_map _).symm (fun x hx => by obtain ⟨y, hy, rfl⟩ := List.mem_map.1 hx; exact low_lt (h8 y hy))) ?_
        | refine sk_seq ?_
        | refine sk_region ?_
        | refine sk_ops_nil ?_
        | refine sk_block ?_
        | refine sk_blk ?_
        | refine sk_skip ?_
        | refine sk_exit rfl ?_
        | ((first | (apply sk_r; rfl; rfl) | (apply sk_w; rfl; rfl) | (apply sk_i; rfl) | (apply sk_g; rfl; rfl)); (simp only [go_sem, Nat.reduceLT, Nat.reduceLeDiff, Nat.reduceEqDiff, Nat.reduceAdd, Nat.reduceSub, Nat.reduceMul, reduceIte, reduceCtorEq, h0, h3, h4, e1] <;> rfl); (first | refine sk_id ?_ | refine cs_t ?_ | refine cs_f ?_ | refine gs_t rfl ?_ | refine gs_f rfl ?_)))
      exact sk_ret ⟨_, (by first | (simp only [aRet, Tryd.results24, aResults, aResult, go_sem, Nat.reduceLT, Nat.reduceLeDiff, Nat.reduceEqDiff, Nat.reduceAdd, Nat.reduceSub, Nat.reduceMul, reduceIte, reduceCtorEq] <;> rfl) | fail), rfl, fun b x h => hk b x h, rfl, rfl⟩
end Go.Proofs.YtophnlmdcidolaaDoor
