import Derived.Test.YtophnlmdcidolaaDoorG
set_option linter.all false
namespace Go.Proofs.YtophnlmdcidolaaDoor
open Go Go.Am
set_option maxHeartbeats 8000000
set_option maxRecDepth 100000

/-- where a name ends -/
def nameEnd (d : List Nat) (k : Nat) : Nat := run (fun c => !isIn [61, 47, 62, 9, 10, 12, 13, 32] c) d k

theorem f69_tr (b k : Nat) (d : List Nat) (hd : ∀ c ∈ d, c < 256) (hk : k < d.length) (hl : d.length ≤ 1000000) (σ : AHeap) (hb : σ.m.get b = some (rdr d k)) :
    Tr Tryd.prog 69 [.ptr b 0] σ fun v σ' =>
      (nameEnd d (k + 1) < d.length → v = .tuple [.str (((d.take (nameEnd d (k + 1))).drop k).map low), .bool true] ∧ σ' = σ.put b (rdr d (nameEnd d (k + 1))) []) ∧
      (d.length ≤ nameEnd d (k + 1) → v = .tuple [.str [], .bool false] ∧ σ' = σ.put b (rdr d d.length) []) := by
  refine sk_body (m := 36) Tryd.func69 rfl (by decide) rfl ?_
  have hrk : k + 1 ≤ nameEnd d (k + 1) := run_ge _ d (k + 1)
  have e1 : (0 : Int) ≤ (k : Int) := by omega
  have e2 : IntKind.wrap .i64 ((k : Int) + 1) = ((k + 1 : Nat) : Int) := wrap_i64 (by omega) (by omega)
  by_cases hf : nameEnd d (k + 1) < d.length
  · have spec := fun σ hb => (f54_tr b (k + 1) d [61, 47, 62, 9, 10, 12, 13, 32] (by decide) (by omega) hl σ hb).mono fun v σ' h => h.1 hf
    rw [show run (fun c => !isIn [61, 47, 62, 9, 10, 12, 13, 32] c) d (k + 1) = nameEnd d (k + 1) from rfl] at spec
    generalize nameEnd d (k + 1) = f at *
    have e3 : (k : Int) ≤ (f : Int) := by omega
    have e4 : (f : Int) ≤ (d.length : Int) := by omega
    repeat (first
      | refine sk_seq ?_
      | refine sk_region ?_
      | refine sk_ops_nil ?_
      | refine sk_draw_nil ?_
      | refine sk_block ?_
      | refine sk_blk ?_
      | refine sk_skip ?_
      | refine sk_exit rfl ?_
      | refine sk_draw (id := 6) [0, 1, 2, 3, 4, 5, 6, 7, 8, 9, 10, 11, 12] mixed (by kernel_rfl) ?_
      | ((first | (apply sk_r; rfl; rfl) | (apply sk_w; rfl; rfl) | (apply sk_i; rfl) | (apply sk_g; rfl; rfl) | (apply sk_dr; rfl; rfl; rfl) | (apply sk_dg; rfl; rfl; rfl; rfl; rfl) | apply drd_i | (apply sk_dnr (i := 11) (fl := []); rfl; rfl; decide +kernel; rfl; rfl) | (apply sk_dnw (i := 11) (fl := []); rfl; rfl; decide +kernel; rfl; rfl) | (apply sk_dnr (i := 12) (fl := []); rfl; rfl; decide +kernel; rfl; rfl) | (apply sk_dnw (i := 12) (fl := []); rfl; rfl; decide +kernel; rfl; rfl)); (simp only [go_sem, Nat.reduceLT, Nat.reduceLeDiff, Nat.reduceEqDiff, Nat.reduceAdd, Nat.reduceSub, Nat.reduceMul, reduceIte, reduceCtorEq, hb, e1, e2, e3, e4, and_self] <;> rfl); (first | refine sk_id ?_ | refine cs_t ?_ | refine cs_f ?_ | refine gs_t rfl ?_ | refine gs_f rfl ?_ | ((repeat (first | exact trivial | ((first | (apply redos_r; rfl; rfl) | (apply redos_g; rfl; rfl; rfl; rfl)); (simp only [go_sem, Nat.reduceLT, Nat.reduceLeDiff, Nat.reduceEqDiff, Nat.reduceAdd, Nat.reduceSub, Nat.reduceMul, reduceIte, reduceCtorEq, hb, e1, e2, e3, e4, and_self] <;> rfl)) | (apply redos_s; rfl; rfl; rfl; (simp only [go_sem, Nat.reduceLT, Nat.reduceLeDiff, Nat.reduceEqDiff, Nat.reduceAdd, Nat.reduceSub, Nat.reduceMul, reduceIte, reduceCtorEq, hb, e1, e2, e3, e4, and_self] <;> rfl)))); refine sk_id ?_)))
      | ((first | (apply sk_c; rfl; rfl) | (apply sk_dnc (i := 10) (fl := []); rfl; rfl; decide +kernel; rfl)); (simp only [go_sem, Nat.reduceLT, Nat.reduceLeDiff, Nat.reduceEqDiff, Nat.reduceAdd, Nat.reduceSub, Nat.reduceMul, reduceIte, reduceCtorEq, hb, e1, e2, e3, e4, and_self] <;> rfl); (first
          | (refine (f32_tr _ (fun c hc => hd c (List.mem_of_mem_take (List.mem_of_mem_drop hc))) (by rw [List.length_drop, List.length_take]; omega) _).mono ?_; rintro _ _ ⟨rfl, rfl⟩)
          | (refine (spec _ (get_put_same _ _ _)).mono ?_; rintro _ _ ⟨rfl, rfl⟩)); (first | refine sk_id ?_ | (refine ⟨?_, ?_⟩; (repeat (first | exact trivial | ((first | (apply redos_r; rfl; rfl) | (apply redos_g; rfl; rfl; rfl; rfl)); (simp only [go_sem, Nat.reduceLT, Nat.reduceLeDiff, Nat.reduceEqDiff, Nat.reduceAdd, Nat.reduceSub, Nat.reduceMul, reduceIte, reduceCtorEq, hb, e1, e2, e3, e4, and_self] <;> rfl)) | (apply redos_s; rfl; rfl; rfl; (simp only [go_sem, Nat.reduceLT, Nat.reduceLeDiff, Nat.reduceEqDiff, Nat.reduceAdd, Nat.reduceSub, Nat.reduceMul, reduceIte, reduceCtorEq, hb, e1, e2, e3, e4, and_self] <;> rfl)))); refine sk_id ?_))))
    exact sk_ret ⟨_, (by first | (simp only [aRet, Tryd.results69, aResults, aResult, go_sem, Nat.reduceLT, Nat.reduceLeDiff, Nat.reduceEqDiff, Nat.reduceAdd, Nat.reduceSub, Nat.reduceMul, reduceIte, reduceCtorEq] <;> rfl) | fail), fun _ => ⟨rfl, by rw [put_put]⟩, fun h => absurd h (by omega)⟩
  · have spec := fun σ hb => (f54_tr b (k + 1) d [61, 47, 62, 9, 10, 12, 13, 32] (by decide) (by omega) hl σ hb).mono fun v σ' h => h.2 (Nat.le_of_not_lt hf)
    repeat (first
      | refine sk_seq ?_
      | refine sk_region ?_
      | refine sk_ops_nil ?_
      | refine sk_draw_nil ?_
      | refine sk_block ?_
      | refine sk_blk ?_
      | refine sk_skip ?_
      | refine sk_exit rfl ?_
      | refine sk_draw (id := 6) [0, 1, 2, 3, 4, 5, 6, 7, 8, 9, 10, 11, 12] mixed (by kernel_rfl) ?_
      | ((first | (apply sk_r; rfl; rfl) | (apply sk_w; rfl; rfl) | (apply sk_i; rfl) | (apply sk_g; rfl; rfl) | (apply sk_dr; rfl; rfl; rfl) | (apply sk_dg; rfl; rfl; rfl; rfl; rfl) | apply drd_i | (apply sk_dnr (i := 11) (fl := []); rfl; rfl; decide +kernel; rfl; rfl) | (apply sk_dnw (i := 11) (fl := []); rfl; rfl; decide +kernel; rfl; rfl) | (apply sk_dnr (i := 12) (fl := []); rfl; rfl; decide +kernel; rfl; rfl) | (apply sk_dnw (i := 12) (fl := []); rfl; rfl; decide +kernel; rfl; rfl)); (simp only [go_sem, Nat.reduceLT, Nat.reduceLeDiff, Nat.reduceEqDiff, Nat.reduceAdd, Nat.reduceSub, Nat.reduceMul, reduceIte, reduceCtorEq, hb, e1, e2, and_self] <;> rfl); (first | refine sk_id ?_ | refine cs_t ?_ | refine cs_f ?_ | refine gs_t rfl ?_ | refine gs_f rfl ?_ | ((repeat (first | exact trivial | ((first | (apply redos_r; rfl; rfl) | (apply redos_g; rfl; rfl; rfl; rfl)); (simp only [go_sem, Nat.reduceLT, Nat.reduceLeDiff, Nat.reduceEqDiff, Nat.reduceAdd, Nat.reduceSub, Nat.reduceMul, reduceIte, reduceCtorEq, hb, e1, e2, and_self] <;> rfl)) | (apply redos_s; rfl; rfl; rfl; (simp only [go_sem, Nat.reduceLT, Nat.reduceLeDiff, Nat.reduceEqDiff, Nat.reduceAdd, Nat.reduceSub, Nat.reduceMul, reduceIte, reduceCtorEq, hb, e1, e2, and_self] <;> rfl)))); refine sk_id ?_)))
      | ((first | (apply sk_c; rfl; rfl) | (apply sk_dnc (i := 10) (fl := []); rfl; rfl; decide +kernel; rfl)); (simp only [go_sem, Nat.reduceLT, Nat.reduceLeDiff, Nat.reduceEqDiff, Nat.reduceAdd, Nat.reduceSub, Nat.reduceMul, reduceIte, reduceCtorEq, hb, e1, e2, and_self] <;> rfl); (first
          | (refine (spec _ (get_put_same _ _ _)).mono ?_; rintro _ _ ⟨rfl, rfl⟩)); (first | refine sk_id ?_ | (refine ⟨?_, ?_⟩; (repeat (first | exact trivial | ((first | (apply redos_r; rfl; rfl) | (apply redos_g; rfl; rfl; rfl; rfl)); (simp only [go_sem, Nat.reduceLT, Nat.reduceLeDiff, Nat.reduceEqDiff, Nat.reduceAdd, Nat.reduceSub, Nat.reduceMul, reduceIte, reduceCtorEq, hb, e1, e2, and_self] <;> rfl)) | (apply redos_s; rfl; rfl; rfl; (simp only [go_sem, Nat.reduceLT, Nat.reduceLeDiff, Nat.reduceEqDiff, Nat.reduceAdd, Nat.reduceSub, Nat.reduceMul, reduceIte, reduceCtorEq, hb, e1, e2, and_self] <;> rfl)))); refine sk_id ?_))))
    exact sk_ret ⟨_, (by first | (simp only [aRet, Tryd.results69, aResults, aResult, go_sem, Nat.reduceLT, Nat.reduceLeDiff, Nat.reduceEqDiff, Nat.reduceAdd, Nat.reduceSub, Nat.reduceMul, reduceIte, reduceCtorEq] <;> rfl) | fail), fun h => absurd h hf, fun _ => ⟨rfl, by rw [put_put]⟩⟩

/-- the value at a place, and where it ends -/
def valueAt (d : List Nat) (k : Nat) : Option (List Nat × Nat) :=
  match d[k]? with
  | none => none
  | some q =>
    if q = 34 ∨ q = 39 then
      if run (fun c => !isIn [q] c) d (k + 1) < d.length then some (((d.take (run (fun c => !isIn [q] c) d (k + 1))).drop (k + 1)).map low, run (fun c => !isIn [q] c) d (k + 1) + 1) else none
    else if q = 62 then some ([], k)
    else if run (fun c => !isIn [62, 9, 10, 12, 13, 32] c) d k < d.length then some (((d.take (run (fun c => !isIn [62, 9, 10, 12, 13, 32] c) d k)).drop k).map low, run (fun c => !isIn [62, 9, 10, 12, 13, 32] c) d k) else none

def blankEnd (d : List Nat) (k : Nat) : Nat := run (isIn [9, 10, 12, 13, 32]) d k

theorem f70_tr (b k : Nat) (d : List Nat) (hd : ∀ c ∈ d, c < 256) (hk : k ≤ d.length) (hl : d.length ≤ 1000000) (σ : AHeap) (hb : σ.m.get b = some (rdr d k)) :
    Tr Tryd.prog 70 [.ptr b 0] σ fun v σ' =>
      (∀ s e, valueAt d (blankEnd d k) = some (s, e) → v = .tuple [.str s, .bool true] ∧ σ'.m.get b = some (rdr d e)) ∧
      (valueAt d (blankEnd d k) = none → v = .tuple [.str [], .bool false]) ∧ ∀ b' x, b' ≠ b → σ.m.get b' = some x → σ'.m.get b' = some x := by
  refine Tr.wf fun hW => ?_
  have hbn := wf_lt hW hb
  refine sk_body (m := 62) Tryd.func70 rfl (by decide) rfl ?_
  have spec6 := f67_tr b k d [9, 10, 12, 13, 32] hd hl σ hb
  have hk1 : blankEnd d k ≤ d.length := run_le hk
  rw [show run (isIn [9, 10, 12, 13, 32]) d k = blankEnd d k from rfl] at spec6
  generalize blankEnd d k = k1 at *
  have keep : ∀ B b' x, b' ≠ b → σ.m.get b' = some x → (σ.put b B []).m.get b' = some x := fun B b' x h1 h2 => by rw [get_put, if_neg (Ne.symm h1)]; exact h2
  by_cases hlt : k1 < d.length
  · obtain ⟨q, hq⟩ := at_some hlt
    have hq8 := hd q (at_mem hq)
    have e1 : decide ((k1 : Int) ≥ d.length) = false := by simp; omega
    have e2 : (0 : Int) ≤ (k1 : Int) := by omega
    have e3 : IntKind.wrap .i64 ((k1 : Int) + 1) = ((k1 + 1 : Nat) : Int) := wrap_i64 (by omega) (by omega)
    by_cases hqq : q = 34 ∨ q = 39
    · have hq34 : (((q : Int) == 34) = true) ∨ (((q : Int) == 34) = false ∧ ((q : Int) == 39) = true) := by
        rcases hqq with rfl | rfl
        · exact .inl rfl
        · exact .inr ⟨rfl, rfl⟩
      have hva : valueAt d k1 = if run (fun c => !isIn [q] c) d (k1 + 1) < d.length then some (((d.take (run (fun c => !isIn [q] c) d (k1 + 1))).drop (k1 + 1)).map low, run (fun c => !isIn [q] c) d (k1 + 1) + 1) else none := by
        unfold valueAt; rw [hq]; simp only; rw [if_pos hqq]
      have hg : ((σ.put b (rdr d (k1 + 1)) []).push (.cells [.int .u8 q] false 0 [])).m.get b = some (rdr d (k1 + 1)) := by
        rw [get_push, if_neg (by rw [next_put]; omega), get_put_same]
      have keep2 : ∀ B b' x, b' ≠ b → σ.m.get b' = some x → (((σ.put b (rdr d (k1 + 1)) []).push (.cells [.int .u8 q] false 0 [])).put b B []).m.get b' = some x := fun B b' x h1 h2 => by
        have := wf_lt hW h2
        rw [get_put, if_neg (Ne.symm h1), get_push, if_neg (by rw [next_put]; omega)]; exact keep _ b' x h1 h2
      have spec14 := f54_tr b (k1 + 1) d [q] (by intro c hc; simp at hc; omega) (by omega) hl _ hg
      have hfge := run_ge (fun c => !isIn [q] c) d (k1 + 1)
      generalize run (fun c => !isIn [q] c) d (k1 + 1) = f at *
      by_cases hf : f < d.length
      · rw [if_pos hf] at hva
        have spec14 := spec14.mono fun v σ' h => h.1 hf
        have e4 : IntKind.wrap .i64 ((f : Int) + 1) = ((f + 1 : Nat) : Int) := wrap_i64 (by omega) (by omega)
        rcases hq34 with e5 | ⟨e5, e6⟩
        · skip
          repeat (first
            | refine sk_rd rfl (rd_conv_bytes (l := [q]) (n := 1) (by first | (simp only [go_sem, Nat.reduceLT, Nat.reduceLeDiff, Nat.reduceEqDiff, Nat.reduceAdd, Nat.reduceSub, Nat.reduceMul, reduceIte, reduceCtorEq, hq, e1, e2, e3, e4, e5] <;> rfl) | fail) (by first | (simp only [go_sem, Nat.reduceLT, Nat.reduceLeDiff, Nat.reduceEqDiff, Nat.reduceAdd, Nat.reduceSub, Nat.reduceMul, reduceIte, reduceCtorEq, hq, e1, e2, e3, e4, e5] <;> rfl) | fail) (by first | (simp only [go_sem, Nat.reduceLT, Nat.reduceLeDiff, Nat.reduceEqDiff, Nat.reduceAdd, Nat.reduceSub, Nat.reduceMul, reduceIte, reduceCtorEq, hq, e1, e2, e3, e4, e5] <;> rfl) | fail) (by first | (simp only [go_sem, Nat.reduceLT, Nat.reduceLeDiff, Nat.reduceEqDiff, Nat.reduceAdd, Nat.reduceSub, Nat.reduceMul, reduceIte, reduceCtorEq, hq, e1, e2, e3, e4, e5] <;> rfl) | fail) (get_push_same _ _) rfl rfl (by intro c hc; simp at hc; omega)) ?_
            | refine sk_seq ?_
            | refine sk_region ?_
            | refine sk_ops_nil ?_
            | refine sk_draw_nil ?_
            | refine sk_block ?_
            | refine sk_blk ?_
            | refine sk_skip ?_
            | refine sk_exit rfl ?_
            | refine sk_draw (id := 4) [0, 1, 2, 3, 4, 5, 6, 7, 8, 9] mixed (by kernel_rfl) ?_
            | ((first | (apply sk_r; rfl; rfl) | (apply sk_w; rfl; rfl) | (apply sk_i; rfl) | (apply sk_g; rfl; rfl) | (apply sk_dr; rfl; rfl; rfl) | (apply sk_dg; rfl; rfl; rfl; rfl; rfl) | apply drd_i | (apply sk_dnr (i := 9) (fl := []); rfl; rfl; decide +kernel; rfl; rfl) | (apply sk_dnw (i := 9) (fl := []); rfl; rfl; decide +kernel; rfl; rfl)); (simp only [go_sem, Nat.reduceLT, Nat.reduceLeDiff, Nat.reduceEqDiff, Nat.reduceAdd, Nat.reduceSub, Nat.reduceMul, reduceIte, reduceCtorEq, hq, e1, e2, e3, e4, e5] <;> rfl); (first | refine sk_id ?_ | refine cs_t ?_ | refine cs_f ?_ | refine gs_t rfl ?_ | refine gs_f rfl ?_ | ((repeat (first | exact trivial | ((first | (apply redos_r; rfl; rfl) | (apply redos_g; rfl; rfl; rfl; rfl)); (simp only [go_sem, Nat.reduceLT, Nat.reduceLeDiff, Nat.reduceEqDiff, Nat.reduceAdd, Nat.reduceSub, Nat.reduceMul, reduceIte, reduceCtorEq, hq, e1, e2, e3, e4, e5] <;> rfl)) | (apply redos_s; rfl; rfl; rfl; (simp only [go_sem, Nat.reduceLT, Nat.reduceLeDiff, Nat.reduceEqDiff, Nat.reduceAdd, Nat.reduceSub, Nat.reduceMul, reduceIte, reduceCtorEq, hq, e1, e2, e3, e4, e5] <;> rfl)))); refine sk_id ?_)))
            | ((first | (apply sk_c; rfl; rfl)); (simp only [go_sem, Nat.reduceLT, Nat.reduceLeDiff, Nat.reduceEqDiff, Nat.reduceAdd, Nat.reduceSub, Nat.reduceMul, reduceIte, reduceCtorEq, hq, e1, e2, e3, e4, e5] <;> rfl); (first
                | (refine spec6.mono ?_; rintro _ _ ⟨rfl, rfl⟩)
                | (refine (f68_tr _ b d k1 _ _ _ (get_put_same _ _ _)).mono ?_; rintro _ _ ⟨rfl, rfl⟩)
                | (refine spec14.mono ?_; rintro _ _ ⟨rfl, rfl⟩)
                | (refine (f32_tr _ (fun c hc => hd c (List.mem_of_mem_take (List.mem_of_mem_drop hc))) (by rw [List.length_drop, List.length_take]; omega) _).mono ?_; rintro _ _ ⟨rfl, rfl⟩)); (first | refine sk_id ?_ | (refine ⟨?_, ?_⟩; (repeat (first | exact trivial | ((first | (apply redos_r; rfl; rfl) | (apply redos_g; rfl; rfl; rfl; rfl)); (simp only [go_sem, Nat.reduceLT, Nat.reduceLeDiff, Nat.reduceEqDiff, Nat.reduceAdd, Nat.reduceSub, Nat.reduceMul, reduceIte, reduceCtorEq, hq, e1, e2, e3, e4, e5] <;> rfl)) | (apply redos_s; rfl; rfl; rfl; (simp only [go_sem, Nat.reduceLT, Nat.reduceLeDiff, Nat.reduceEqDiff, Nat.reduceAdd, Nat.reduceSub, Nat.reduceMul, reduceIte, reduceCtorEq, hq, e1, e2, e3, e4, e5] <;> rfl)))); refine sk_id ?_))))
          exact sk_ret ⟨_, (by first | (simp only [aRet, Tryd.results70, aResults, aResult, go_sem, Nat.reduceLT, Nat.reduceLeDiff, Nat.reduceEqDiff, Nat.reduceAdd, Nat.reduceSub, Nat.reduceMul, reduceIte, reduceCtorEq] <;> rfl) | fail), fun s e h => by (rw [hva] at h; cases h; exact ⟨rfl, get_put_same _ _ _⟩), fun h => by (rw [hva] at h; cases h), fun b' x h1 h2 => keep2 _ b' x h1 h2⟩
        · skip
          repeat (first
            | refine sk_rd rfl (rd_conv_bytes (l := [q]) (n := 1) (by first | (simp only [go_sem, Nat.reduceLT, Nat.reduceLeDiff, Nat.reduceEqDiff, Nat.reduceAdd, Nat.reduceSub, Nat.reduceMul, reduceIte, reduceCtorEq, hq, e1, e2, e3, e4, e5, e6] <;> rfl) | fail) (by first | (simp only [go_sem, Nat.reduceLT, Nat.reduceLeDiff, Nat.reduceEqDiff, Nat.reduceAdd, Nat.reduceSub, Nat.reduceMul, reduceIte, reduceCtorEq, hq, e1, e2, e3, e4, e5, e6] <;> rfl) | fail) (by first | (simp only [go_sem, Nat.reduceLT, Nat.reduceLeDiff, Nat.reduceEqDiff, Nat.reduceAdd, Nat.reduceSub, Nat.reduceMul, reduceIte, reduceCtorEq, hq, e1, e2, e3, e4, e5, e6] <;> rfl) | fail) (by first | (simp only [go_sem, Nat.reduceLT, Nat.reduceLeDiff, Nat.reduceEqDiff, Nat.reduceAdd, Nat.reduceSub, Nat.reduceMul, reduceIte, reduceCtorEq, hq, e1, e2, e3, e4, e5, e6] <;> rfl) | fail) (get_push_same _ _) rfl rfl (by intro c hc; simp at hc; omega)) ?_
            | refine sk_seq ?_
            | refine sk_region ?_
            | refine sk_ops_nil ?_
            | refine sk_draw_nil ?_
            | refine sk_block ?_
            | refine sk_blk ?_
            | refine sk_skip ?_
            | refine sk_exit rfl ?_
            | refine sk_draw (id := 4) [0, 1, 2, 3, 4, 5, 6, 7, 8, 9] mixed (by kernel_rfl) ?_
            | ((first | (apply sk_r; rfl; rfl) | (apply sk_w; rfl; rfl) | (apply sk_i; rfl) | (apply sk_g; rfl; rfl) | (apply sk_dr; rfl; rfl; rfl) | (apply sk_dg; rfl; rfl; rfl; rfl; rfl) | apply drd_i | (apply sk_dnr (i := 9) (fl := []); rfl; rfl; decide +kernel; rfl; rfl) | (apply sk_dnw (i := 9) (fl := []); rfl; rfl; decide +kernel; rfl; rfl)); (simp only [go_sem, Nat.reduceLT, Nat.reduceLeDiff, Nat.reduceEqDiff, Nat.reduceAdd, Nat.reduceSub, Nat.reduceMul, reduceIte, reduceCtorEq, hq, e1, e2, e3, e4, e5, e6] <;> rfl); (first | refine sk_id ?_ | refine cs_t ?_ | refine cs_f ?_ | refine gs_t rfl ?_ | refine gs_f rfl ?_ | ((repeat (first | exact trivial | ((first | (apply redos_r; rfl; rfl) | (apply redos_g; rfl; rfl; rfl; rfl)); (simp only [go_sem, Nat.reduceLT, Nat.reduceLeDiff, Nat.reduceEqDiff, Nat.reduceAdd, Nat.reduceSub, Nat.reduceMul, reduceIte, reduceCtorEq, hq, e1, e2, e3, e4, e5, e6] <;> rfl)) | (apply redos_s; rfl; rfl; rfl; (simp only [go_sem, Nat.reduceLT, Nat.reduceLeDiff, Nat.reduceEqDiff, Nat.reduceAdd, Nat.reduceSub, Nat.reduceMul, reduceIte, reduceCtorEq, hq, e1, e2, e3, e4, e5, e6] <;> rfl)))); refine sk_id ?_)))
            | ((first | (apply sk_c; rfl; rfl)); (simp only [go_sem, Nat.reduceLT, Nat.reduceLeDiff, Nat.reduceEqDiff, Nat.reduceAdd, Nat.reduceSub, Nat.reduceMul, reduceIte, reduceCtorEq, hq, e1, e2, e3, e4, e5, e6] <;> rfl); (first
                | (refine spec6.mono ?_; rintro _ _ ⟨rfl, rfl⟩)
                | (refine (f68_tr _ b d k1 _ _ _ (get_put_same _ _ _)).mono ?_; rintro _ _ ⟨rfl, rfl⟩)
                | (refine spec14.mono ?_; rintro _ _ ⟨rfl, rfl⟩)
                | (refine (f32_tr _ (fun c hc => hd c (List.mem_of_mem_take (List.mem_of_mem_drop hc))) (by rw [List.length_drop, List.length_take]; omega) _).mono ?_; rintro _ _ ⟨rfl, rfl⟩)); (first | refine sk_id ?_ | (refine ⟨?_, ?_⟩; (repeat (first | exact trivial | ((first | (apply redos_r; rfl; rfl) | (apply redos_g; rfl; rfl; rfl; rfl)); (simp only [go_sem, Nat.reduceLT, Nat.reduceLeDiff, Nat.reduceEqDiff, Nat.reduceAdd, Nat.reduceSub, Nat.reduceMul, reduceIte, reduceCtorEq, hq, e1, e2, e3, e4, e5, e6] <;> rfl)) | (apply redos_s; rfl; rfl; rfl; (simp only [go_sem, Nat.reduceLT, Nat.reduceLeDiff, Nat.reduceEqDiff, Nat.reduceAdd, Nat.reduceSub, Nat.reduceMul, reduceIte, reduceCtorEq, hq, e1, e2, e3, e4, e5, e6] <;> rfl)))); refine sk_id ?_))))
          exact sk_ret ⟨_, (by first | (simp only [aRet, Tryd.results70, aResults, aResult, go_sem, Nat.reduceLT, Nat.reduceLeDiff, Nat.reduceEqDiff, Nat.reduceAdd, Nat.reduceSub, Nat.reduceMul, reduceIte, reduceCtorEq] <;> rfl) | fail), fun s e h => by (rw [hva] at h; cases h; exact ⟨rfl, get_put_same _ _ _⟩), fun h => by (rw [hva] at h; cases h), fun b' x h1 h2 => keep2 _ b' x h1 h2⟩
      · rw [if_neg hf] at hva
        have spec14 := spec14.mono fun v σ' h => h.2 (Nat.le_of_not_lt hf)
        rcases hq34 with e5 | ⟨e5, e6⟩
        · skip
          repeat (first
            | refine sk_rd rfl (rd_conv_bytes (l := [q]) (n := 1) (by first | (simp only [go_sem, Nat.reduceLT, Nat.reduceLeDiff, Nat.reduceEqDiff, Nat.reduceAdd, Nat.reduceSub, Nat.reduceMul, reduceIte, reduceCtorEq, hq, e1, e2, e3, e5] <;> rfl) | fail) (by first | (simp only [go_sem, Nat.reduceLT, Nat.reduceLeDiff, Nat.reduceEqDiff, Nat.reduceAdd, Nat.reduceSub, Nat.reduceMul, reduceIte, reduceCtorEq, hq, e1, e2, e3, e5] <;> rfl) | fail) (by first | (simp only [go_sem, Nat.reduceLT, Nat.reduceLeDiff, Nat.reduceEqDiff, Nat.reduceAdd, Nat.reduceSub, Nat.reduceMul, reduceIte, reduceCtorEq, hq, e1, e2, e3, e5] <;> rfl) | fail) (by first | (simp only [go_sem, Nat.reduceLT, Nat.reduceLeDiff, Nat.reduceEqDiff, Nat.reduceAdd, Nat.reduceSub, Nat.reduceMul, reduceIte, reduceCtorEq, hq, e1, e2, e3, e5] <;> rfl) | fail) (get_push_same _ _) rfl rfl (by intro c hc; simp at hc; omega)) ?_
            | refine sk_seq ?_
            | refine sk_region ?_
            | refine sk_ops_nil ?_
            | refine sk_draw_nil ?_
            | refine sk_block ?_
            | refine sk_blk ?_
            | refine sk_skip ?_
            | refine sk_exit rfl ?_
            | refine sk_draw (id := 4) [0, 1, 2, 3, 4, 5, 6, 7, 8, 9] mixed (by kernel_rfl) ?_
            | ((first | (apply sk_r; rfl; rfl) | (apply sk_w; rfl; rfl) | (apply sk_i; rfl) | (apply sk_g; rfl; rfl) | (apply sk_dr; rfl; rfl; rfl) | (apply sk_dg; rfl; rfl; rfl; rfl; rfl) | apply drd_i | (apply sk_dnr (i := 9) (fl := []); rfl; rfl; decide +kernel; rfl; rfl) | (apply sk_dnw (i := 9) (fl := []); rfl; rfl; decide +kernel; rfl; rfl)); (simp only [go_sem, Nat.reduceLT, Nat.reduceLeDiff, Nat.reduceEqDiff, Nat.reduceAdd, Nat.reduceSub, Nat.reduceMul, reduceIte, reduceCtorEq, hq, e1, e2, e3, e5] <;> rfl); (first | refine sk_id ?_ | refine cs_t ?_ | refine cs_f ?_ | refine gs_t rfl ?_ | refine gs_f rfl ?_ | ((repeat (first | exact trivial | ((first | (apply redos_r; rfl; rfl) | (apply redos_g; rfl; rfl; rfl; rfl)); (simp only [go_sem, Nat.reduceLT, Nat.reduceLeDiff, Nat.reduceEqDiff, Nat.reduceAdd, Nat.reduceSub, Nat.reduceMul, reduceIte, reduceCtorEq, hq, e1, e2, e3, e5] <;> rfl)) | (apply redos_s; rfl; rfl; rfl; (simp only [go_sem, Nat.reduceLT, Nat.reduceLeDiff, Nat.reduceEqDiff, Nat.reduceAdd, Nat.reduceSub, Nat.reduceMul, reduceIte, reduceCtorEq, hq, e1, e2, e3, e5] <;> rfl)))); refine sk_id ?_)))
            | ((first | (apply sk_c; rfl; rfl)); (simp only [go_sem, Nat.reduceLT, Nat.reduceLeDiff, Nat.reduceEqDiff, Nat.reduceAdd, Nat.reduceSub, Nat.reduceMul, reduceIte, reduceCtorEq, hq, e1, e2, e3, e5] <;> rfl); (first
                | (refine spec6.mono ?_; rintro _ _ ⟨rfl, rfl⟩)
                | (refine (f68_tr _ b d k1 _ _ _ (get_put_same _ _ _)).mono ?_; rintro _ _ ⟨rfl, rfl⟩)
                | (refine spec14.mono ?_; rintro _ _ ⟨rfl, rfl⟩)
                | (refine (f32_tr [] (by simp) (by simp) _).mono ?_; rintro _ _ ⟨rfl, rfl⟩)); (first | refine sk_id ?_ | (refine ⟨?_, ?_⟩; (repeat (first | exact trivial | ((first | (apply redos_r; rfl; rfl) | (apply redos_g; rfl; rfl; rfl; rfl)); (simp only [go_sem, Nat.reduceLT, Nat.reduceLeDiff, Nat.reduceEqDiff, Nat.reduceAdd, Nat.reduceSub, Nat.reduceMul, reduceIte, reduceCtorEq, hq, e1, e2, e3, e5] <;> rfl)) | (apply redos_s; rfl; rfl; rfl; (simp only [go_sem, Nat.reduceLT, Nat.reduceLeDiff, Nat.reduceEqDiff, Nat.reduceAdd, Nat.reduceSub, Nat.reduceMul, reduceIte, reduceCtorEq, hq, e1, e2, e3, e5] <;> rfl)))); refine sk_id ?_))))
          exact sk_ret ⟨_, (by first | (simp only [aRet, Tryd.results70, aResults, aResult, go_sem, Nat.reduceLT, Nat.reduceLeDiff, Nat.reduceEqDiff, Nat.reduceAdd, Nat.reduceSub, Nat.reduceMul, reduceIte, reduceCtorEq] <;> rfl) | fail), fun s e h => by (rw [hva] at h; cases h), fun _ => rfl, fun b' x h1 h2 => keep2 _ b' x h1 h2⟩
        · skip
          repeat (first
            | refine sk_rd rfl (rd_conv_bytes (l := [q]) (n := 1) (by first | (simp only [go_sem, Nat.reduceLT, Nat.reduceLeDiff, Nat.reduceEqDiff, Nat.reduceAdd, Nat.reduceSub, Nat.reduceMul, reduceIte, reduceCtorEq, hq, e1, e2, e3, e5, e6] <;> rfl) | fail) (by first | (simp only [go_sem, Nat.reduceLT, Nat.reduceLeDiff, Nat.reduceEqDiff, Nat.reduceAdd, Nat.reduceSub, Nat.reduceMul, reduceIte, reduceCtorEq, hq, e1, e2, e3, e5, e6] <;> rfl) | fail) (by first | (simp only [go_sem, Nat.reduceLT, Nat.reduceLeDiff, Nat.reduceEqDiff, Nat.reduceAdd, Nat.reduceSub, Nat.reduceMul, reduceIte, reduceCtorEq, hq, e1, e2, e3, e5, e6] <;> rfl) | fail) (by first | (simp only [go_sem, Nat.reduceLT, Nat.reduceLeDiff, Nat.reduceEqDiff, Nat.reduceAdd, Nat.reduceSub, Nat.reduceMul, reduceIte, reduceCtorEq, hq, e1, e2, e3, e5, e6] <;> rfl) | fail) (get_push_same _ _) rfl rfl (by intro c hc; simp at hc; omega)) ?_
            | refine sk_seq ?_
            | refine sk_region ?_
            | refine sk_ops_nil ?_
            | refine sk_draw_nil ?_
            | refine sk_block ?_
            | refine sk_blk ?_
            | refine sk_skip ?_
            | refine sk_exit rfl ?_
            | refine sk_draw (id := 4) [0, 1, 2, 3, 4, 5, 6, 7, 8, 9] mixed (by kernel_rfl) ?_
            | ((first | (apply sk_r; rfl; rfl) | (apply sk_w; rfl; rfl) | (apply sk_i; rfl) | (apply sk_g; rfl; rfl) | (apply sk_dr; rfl; rfl; rfl) | (apply sk_dg; rfl; rfl; rfl; rfl; rfl) | apply drd_i | (apply sk_dnr (i := 9) (fl := []); rfl; rfl; decide +kernel; rfl; rfl) | (apply sk_dnw (i := 9) (fl := []); rfl; rfl; decide +kernel; rfl; rfl)); (simp only [go_sem, Nat.reduceLT, Nat.reduceLeDiff, Nat.reduceEqDiff, Nat.reduceAdd, Nat.reduceSub, Nat.reduceMul, reduceIte, reduceCtorEq, hq, e1, e2, e3, e5, e6] <;> rfl); (first | refine sk_id ?_ | refine cs_t ?_ | refine cs_f ?_ | refine gs_t rfl ?_ | refine gs_f rfl ?_ | ((repeat (first | exact trivial | ((first | (apply redos_r; rfl; rfl) | (apply redos_g; rfl; rfl; rfl; rfl)); (simp only [go_sem, Nat.reduceLT, Nat.reduceLeDiff, Nat.reduceEqDiff, Nat.reduceAdd, Nat.reduceSub, Nat.reduceMul, reduceIte, reduceCtorEq, hq, e1, e2, e3, e5, e6] <;> rfl)) | (apply redos_s; rfl; rfl; rfl; (simp only [go_sem, Nat.reduceLT, Nat.reduceLeDiff, Nat.reduceEqDiff, Nat.reduceAdd, Nat.reduceSub, Nat.reduceMul, reduceIte, reduceCtorEq, hq, e1, e2, e3, e5, e6] <;> rfl)))); refine sk_id ?_)))
            | ((first | (apply sk_c; rfl; rfl)); (simp only [go_sem, Nat.reduceLT, Nat.reduceLeDiff, Nat.reduceEqDiff, Nat.reduceAdd, Nat.reduceSub, Nat.reduceMul, reduceIte, reduceCtorEq, hq, e1, e2, e3, e5, e6] <;> rfl); (first
                | (refine spec6.mono ?_; rintro _ _ ⟨rfl, rfl⟩)
                | (refine (f68_tr _ b d k1 _ _ _ (get_put_same _ _ _)).mono ?_; rintro _ _ ⟨rfl, rfl⟩)
                | (refine spec14.mono ?_; rintro _ _ ⟨rfl, rfl⟩)
                | (refine (f32_tr [] (by simp) (by simp) _).mono ?_; rintro _ _ ⟨rfl, rfl⟩)); (first | refine sk_id ?_ | (refine ⟨?_, ?_⟩; (repeat (first | exact trivial | ((first | (apply redos_r; rfl; rfl) | (apply redos_g; rfl; rfl; rfl; rfl)); (simp only [go_sem, Nat.reduceLT, Nat.reduceLeDiff, Nat.reduceEqDiff, Nat.reduceAdd, Nat.reduceSub, Nat.reduceMul, reduceIte, reduceCtorEq, hq, e1, e2, e3, e5, e6] <;> rfl)) | (apply redos_s; rfl; rfl; rfl; (simp only [go_sem, Nat.reduceLT, Nat.reduceLeDiff, Nat.reduceEqDiff, Nat.reduceAdd, Nat.reduceSub, Nat.reduceMul, reduceIte, reduceCtorEq, hq, e1, e2, e3, e5, e6] <;> rfl)))); refine sk_id ?_))))
          exact sk_ret ⟨_, (by first | (simp only [aRet, Tryd.results70, aResults, aResult, go_sem, Nat.reduceLT, Nat.reduceLeDiff, Nat.reduceEqDiff, Nat.reduceAdd, Nat.reduceSub, Nat.reduceMul, reduceIte, reduceCtorEq] <;> rfl) | fail), fun s e h => by (rw [hva] at h; cases h), fun _ => rfl, fun b' x h1 h2 => keep2 _ b' x h1 h2⟩
    · have e5 : ((q : Int) == 34) = false := by simp; omega
      have e6 : ((q : Int) == 39) = false := by simp; omega
      by_cases h62 : q = 62
      · have hva : valueAt d k1 = some ([], k1) := by
          unfold valueAt; rw [hq]; simp only; rw [if_neg hqq, if_pos h62]
        have e7 : ((q : Int) == 62) = true := by simp; omega
        have spec14 := trivial
        repeat (first
          | refine sk_rd rfl (rd_conv_bytes (l := [q]) (n := 1) (by first | (simp only [go_sem, Nat.reduceLT, Nat.reduceLeDiff, Nat.reduceEqDiff, Nat.reduceAdd, Nat.reduceSub, Nat.reduceMul, reduceIte, reduceCtorEq, hq, e1, e2, e3, e5, e6, e7] <;> rfl) | fail) (by first | (simp only [go_sem, Nat.reduceLT, Nat.reduceLeDiff, Nat.reduceEqDiff, Nat.reduceAdd, Nat.reduceSub, Nat.reduceMul, reduceIte, reduceCtorEq, hq, e1, e2, e3, e5, e6, e7] <;> rfl) | fail) (by first | (simp only [go_sem, Nat.reduceLT, Nat.reduceLeDiff, Nat.reduceEqDiff, Nat.reduceAdd, Nat.reduceSub, Nat.reduceMul, reduceIte, reduceCtorEq, hq, e1, e2, e3, e5, e6, e7] <;> rfl) | fail) (by first | (simp only [go_sem, Nat.reduceLT, Nat.reduceLeDiff, Nat.reduceEqDiff, Nat.reduceAdd, Nat.reduceSub, Nat.reduceMul, reduceIte, reduceCtorEq, hq, e1, e2, e3, e5, e6, e7] <;> rfl) | fail) (get_push_same _ _) rfl rfl (by intro c hc; simp at hc; omega)) ?_
          | refine sk_seq ?_
          | refine sk_region ?_
          | refine sk_ops_nil ?_
          | refine sk_draw_nil ?_
          | refine sk_block ?_
          | refine sk_blk ?_
          | refine sk_skip ?_
          | refine sk_exit rfl ?_
          | refine sk_draw (id := 4) [0, 1, 2, 3, 4, 5, 6, 7, 8, 9] mixed (by kernel_rfl) ?_
          | ((first | (apply sk_r; rfl; rfl) | (apply sk_w; rfl; rfl) | (apply sk_i; rfl) | (apply sk_g; rfl; rfl) | (apply sk_dr; rfl; rfl; rfl) | (apply sk_dg; rfl; rfl; rfl; rfl; rfl) | apply drd_i | (apply sk_dnr (i := 9) (fl := []); rfl; rfl; decide +kernel; rfl; rfl) | (apply sk_dnw (i := 9) (fl := []); rfl; rfl; decide +kernel; rfl; rfl)); (simp only [go_sem, Nat.reduceLT, Nat.reduceLeDiff, Nat.reduceEqDiff, Nat.reduceAdd, Nat.reduceSub, Nat.reduceMul, reduceIte, reduceCtorEq, hq, e1, e2, e3, e5, e6, e7] <;> rfl); (first | refine sk_id ?_ | refine cs_t ?_ | refine cs_f ?_ | refine gs_t rfl ?_ | refine gs_f rfl ?_ | ((repeat (first | exact trivial | ((first | (apply redos_r; rfl; rfl) | (apply redos_g; rfl; rfl; rfl; rfl)); (simp only [go_sem, Nat.reduceLT, Nat.reduceLeDiff, Nat.reduceEqDiff, Nat.reduceAdd, Nat.reduceSub, Nat.reduceMul, reduceIte, reduceCtorEq, hq, e1, e2, e3, e5, e6, e7] <;> rfl)) | (apply redos_s; rfl; rfl; rfl; (simp only [go_sem, Nat.reduceLT, Nat.reduceLeDiff, Nat.reduceEqDiff, Nat.reduceAdd, Nat.reduceSub, Nat.reduceMul, reduceIte, reduceCtorEq, hq, e1, e2, e3, e5, e6, e7] <;> rfl)))); refine sk_id ?_)))
          | ((first | (apply sk_c; rfl; rfl)); (simp only [go_sem, Nat.reduceLT, Nat.reduceLeDiff, Nat.reduceEqDiff, Nat.reduceAdd, Nat.reduceSub, Nat.reduceMul, reduceIte, reduceCtorEq, hq, e1, e2, e3, e5, e6, e7] <;> rfl); (first
              | (refine spec6.mono ?_; rintro _ _ ⟨rfl, rfl⟩)
              | (refine (f68_tr _ b d k1 _ _ _ (get_put_same _ _ _)).mono ?_; rintro _ _ ⟨rfl, rfl⟩)
              | (refine spec6.mono ?_; rintro _ _ ⟨rfl, rfl⟩)
              | (refine (f32_tr _ (fun c hc => hd c (List.mem_of_mem_take (List.mem_of_mem_drop hc))) (by rw [List.length_drop, List.length_take]; omega) _).mono ?_; rintro _ _ ⟨rfl, rfl⟩)); (first | refine sk_id ?_ | (refine ⟨?_, ?_⟩; (repeat (first | exact trivial | ((first | (apply redos_r; rfl; rfl) | (apply redos_g; rfl; rfl; rfl; rfl)); (simp only [go_sem, Nat.reduceLT, Nat.reduceLeDiff, Nat.reduceEqDiff, Nat.reduceAdd, Nat.reduceSub, Nat.reduceMul, reduceIte, reduceCtorEq, hq, e1, e2, e3, e5, e6, e7] <;> rfl)) | (apply redos_s; rfl; rfl; rfl; (simp only [go_sem, Nat.reduceLT, Nat.reduceLeDiff, Nat.reduceEqDiff, Nat.reduceAdd, Nat.reduceSub, Nat.reduceMul, reduceIte, reduceCtorEq, hq, e1, e2, e3, e5, e6, e7] <;> rfl)))); refine sk_id ?_))))
        exact sk_ret ⟨_, (by first | (simp only [aRet, Tryd.results70, aResults, aResult, go_sem, Nat.reduceLT, Nat.reduceLeDiff, Nat.reduceEqDiff, Nat.reduceAdd, Nat.reduceSub, Nat.reduceMul, reduceIte, reduceCtorEq] <;> rfl) | fail), fun s e h => by (rw [hva] at h; cases h; exact ⟨rfl, get_put_same _ _ _⟩), fun h => by (rw [hva] at h; cases h), fun b' x h1 h2 => keep _ b' x h1 h2⟩
      · have hva : valueAt d k1 = if run (fun c => !isIn [62, 9, 10, 12, 13, 32] c) d k1 < d.length then some (((d.take (run (fun c => !isIn [62, 9, 10, 12, 13, 32] c) d k1)).drop k1).map low, run (fun c => !isIn [62, 9, 10, 12, 13, 32] c) d k1) else none := by
          unfold valueAt; rw [hq]; simp only; rw [if_neg hqq, if_neg h62]
        have e7 : ((q : Int) == 62) = false := by simp; omega
        have spec14 := f54_tr b k1 d [62, 9, 10, 12, 13, 32] (by decide) (by omega) hl _ (get_put_same σ b (rdr d k1))
        have keep2 : ∀ B b' x, b' ≠ b → σ.m.get b' = some x → ((σ.put b (rdr d k1) []).put b B []).m.get b' = some x := fun B b' x h1 h2 => by rw [put_put]; exact keep B b' x h1 h2
        have hfge := run_ge (fun c => !isIn [62, 9, 10, 12, 13, 32] c) d k1
        generalize run (fun c => !isIn [62, 9, 10, 12, 13, 32] c) d k1 = f at *
        by_cases hf : f < d.length
        · rw [if_pos hf] at hva
          have spec14 := spec14.mono fun v σ' h => h.1 hf
          repeat (first
            | refine sk_rd rfl (rd_conv_bytes (l := [q]) (n := 1) (by first | (simp only [go_sem, Nat.reduceLT, Nat.reduceLeDiff, Nat.reduceEqDiff, Nat.reduceAdd, Nat.reduceSub, Nat.reduceMul, reduceIte, reduceCtorEq, hq, e1, e2, e3, e5, e6, e7] <;> rfl) | fail) (by first | (simp only [go_sem, Nat.reduceLT, Nat.reduceLeDiff, Nat.reduceEqDiff, Nat.reduceAdd, Nat.reduceSub, Nat.reduceMul, reduceIte, reduceCtorEq, hq, e1, e2, e3, e5, e6, e7] <;> rfl) | fail) (by first | (simp only [go_sem, Nat.reduceLT, Nat.reduceLeDiff, Nat.reduceEqDiff, Nat.reduceAdd, Nat.reduceSub, Nat.reduceMul, reduceIte, reduceCtorEq, hq, e1, e2, e3, e5, e6, e7] <;> rfl) | fail) (by first | (simp only [go_sem, Nat.reduceLT, Nat.reduceLeDiff, Nat.reduceEqDiff, Nat.reduceAdd, Nat.reduceSub, Nat.reduceMul, reduceIte, reduceCtorEq, hq, e1, e2, e3, e5, e6, e7] <;> rfl) | fail) (get_push_same _ _) rfl rfl (by intro c hc; simp at hc; omega)) ?_
            | refine sk_seq ?_
            | refine sk_region ?_
            | refine sk_ops_nil ?_
            | refine sk_draw_nil ?_
            | refine sk_block ?_
            | refine sk_blk ?_
            | refine sk_skip ?_
            | refine sk_exit rfl ?_
            | refine sk_draw (id := 4) [0, 1, 2, 3, 4, 5, 6, 7, 8, 9] mixed (by kernel_rfl) ?_
            | ((first | (apply sk_r; rfl; rfl) | (apply sk_w; rfl; rfl) | (apply sk_i; rfl) | (apply sk_g; rfl; rfl) | (apply sk_dr; rfl; rfl; rfl) | (apply sk_dg; rfl; rfl; rfl; rfl; rfl) | apply drd_i | (apply sk_dnr (i := 9) (fl := []); rfl; rfl; decide +kernel; rfl; rfl) | (apply sk_dnw (i := 9) (fl := []); rfl; rfl; decide +kernel; rfl; rfl)); (simp only [go_sem, Nat.reduceLT, Nat.reduceLeDiff, Nat.reduceEqDiff, Nat.reduceAdd, Nat.reduceSub, Nat.reduceMul, reduceIte, reduceCtorEq, hq, e1, e2, e3, e5, e6, e7] <;> rfl); (first | refine sk_id ?_ | refine cs_t ?_ | refine cs_f ?_ | refine gs_t rfl ?_ | refine gs_f rfl ?_ | ((repeat (first | exact trivial | ((first | (apply redos_r; rfl; rfl) | (apply redos_g; rfl; rfl; rfl; rfl)); (simp only [go_sem, Nat.reduceLT, Nat.reduceLeDiff, Nat.reduceEqDiff, Nat.reduceAdd, Nat.reduceSub, Nat.reduceMul, reduceIte, reduceCtorEq, hq, e1, e2, e3, e5, e6, e7] <;> rfl)) | (apply redos_s; rfl; rfl; rfl; (simp only [go_sem, Nat.reduceLT, Nat.reduceLeDiff, Nat.reduceEqDiff, Nat.reduceAdd, Nat.reduceSub, Nat.reduceMul, reduceIte, reduceCtorEq, hq, e1, e2, e3, e5, e6, e7] <;> rfl)))); refine sk_id ?_)))
            | ((first | (apply sk_c; rfl; rfl)); (simp only [go_sem, Nat.reduceLT, Nat.reduceLeDiff, Nat.reduceEqDiff, Nat.reduceAdd, Nat.reduceSub, Nat.reduceMul, reduceIte, reduceCtorEq, hq, e1, e2, e3, e5, e6, e7] <;> rfl); (first
                | (refine spec6.mono ?_; rintro _ _ ⟨rfl, rfl⟩)
                | (refine (f68_tr _ b d k1 _ _ _ (get_put_same _ _ _)).mono ?_; rintro _ _ ⟨rfl, rfl⟩)
                | (refine spec14.mono ?_; rintro _ _ ⟨rfl, rfl⟩)
                | (refine (f32_tr _ (fun c hc => hd c (List.mem_of_mem_take (List.mem_of_mem_drop hc))) (by rw [List.length_drop, List.length_take]; omega) _).mono ?_; rintro _ _ ⟨rfl, rfl⟩)); (first | refine sk_id ?_ | (refine ⟨?_, ?_⟩; (repeat (first | exact trivial | ((first | (apply redos_r; rfl; rfl) | (apply redos_g; rfl; rfl; rfl; rfl)); (simp only [go_sem, Nat.reduceLT, Nat.reduceLeDiff, Nat.reduceEqDiff, Nat.reduceAdd, Nat.reduceSub, Nat.reduceMul, reduceIte, reduceCtorEq, hq, e1, e2, e3, e5, e6, e7] <;> rfl)) | (apply redos_s; rfl; rfl; rfl; (simp only [go_sem, Nat.reduceLT, Nat.reduceLeDiff, Nat.reduceEqDiff, Nat.reduceAdd, Nat.reduceSub, Nat.reduceMul, reduceIte, reduceCtorEq, hq, e1, e2, e3, e5, e6, e7] <;> rfl)))); refine sk_id ?_))))
          exact sk_ret ⟨_, (by first | (simp only [aRet, Tryd.results70, aResults, aResult, go_sem, Nat.reduceLT, Nat.reduceLeDiff, Nat.reduceEqDiff, Nat.reduceAdd, Nat.reduceSub, Nat.reduceMul, reduceIte, reduceCtorEq] <;> rfl) | fail), fun s e h => by (rw [hva] at h; cases h; exact ⟨rfl, get_put_same _ _ _⟩), fun h => by (rw [hva] at h; cases h), fun b' x h1 h2 => keep2 _ b' x h1 h2⟩
        · rw [if_neg hf] at hva
          have spec14 := spec14.mono fun v σ' h => h.2 (Nat.le_of_not_lt hf)
          repeat (first
            | refine sk_rd rfl (rd_conv_bytes (l := [q]) (n := 1) (by first | (simp only [go_sem, Nat.reduceLT, Nat.reduceLeDiff, Nat.reduceEqDiff, Nat.reduceAdd, Nat.reduceSub, Nat.reduceMul, reduceIte, reduceCtorEq, hq, e1, e2, e3, e5, e6, e7] <;> rfl) | fail) (by first | (simp only [go_sem, Nat.reduceLT, Nat.reduceLeDiff, Nat.reduceEqDiff, Nat.reduceAdd, Nat.reduceSub, Nat.reduceMul, reduceIte, reduceCtorEq, hq, e1, e2, e3, e5, e6, e7] <;> rfl) | fail) (by first | (simp only [go_sem, Nat.reduceLT, Nat.reduceLeDiff, Nat.reduceEqDiff, Nat.reduceAdd, Nat.reduceSub, Nat.reduceMul, reduceIte, reduceCtorEq, hq, e1, e2, e3, e5, e6, e7] <;> rfl) | fail) (by first | (simp only [go_sem, Nat.reduceLT, Nat.reduceLeDiff, Nat.reduceEqDiff, Nat.reduceAdd, Nat.reduceSub, Nat.reduceMul, reduceIte, reduceCtorEq, hq, e1, e2, e3, e5, e6, e7] <;> rfl) | fail) (get_push_same _ _) rfl rfl (by intro c hc; simp at hc; omega)) ?_
            | refine sk_seq ?_
            | refine sk_region ?_
            | refine sk_ops_nil ?_
            | refine sk_draw_nil ?_
            | refine sk_block ?_
            | refine sk_blk ?_
            | refine sk_skip ?_
            | refine sk_exit rfl ?_
            | refine sk_draw (id := 4) [0, 1, 2, 3, 4, 5, 6, 7, 8, 9] mixed (by kernel_rfl) ?_
            | ((first | (apply sk_r; rfl; rfl) | (apply sk_w; rfl; rfl) | (apply sk_i; rfl) | (apply sk_g; rfl; rfl) | (apply sk_dr; rfl; rfl; rfl) | (apply sk_dg; rfl; rfl; rfl; rfl; rfl) | apply drd_i | (apply sk_dnr (i := 9) (fl := []); rfl; rfl; decide +kernel; rfl; rfl) | (apply sk_dnw (i := 9) (fl := []); rfl; rfl; decide +kernel; rfl; rfl)); (simp only [go_sem, Nat.reduceLT, Nat.reduceLeDiff, Nat.reduceEqDiff, Nat.reduceAdd, Nat.reduceSub, Nat.reduceMul, reduceIte, reduceCtorEq, hq, e1, e2, e3, e5, e6, e7] <;> rfl); (first | refine sk_id ?_ | refine cs_t ?_ | refine cs_f ?_ | refine gs_t rfl ?_ | refine gs_f rfl ?_ | ((repeat (first | exact trivial | ((first | (apply redos_r; rfl; rfl) | (apply redos_g; rfl; rfl; rfl; rfl)); (simp only [go_sem, Nat.reduceLT, Nat.reduceLeDiff, Nat.reduceEqDiff, Nat.reduceAdd, Nat.reduceSub, Nat.reduceMul, reduceIte, reduceCtorEq, hq, e1, e2, e3, e5, e6, e7] <;> rfl)) | (apply redos_s; rfl; rfl; rfl; (simp only [go_sem, Nat.reduceLT, Nat.reduceLeDiff, Nat.reduceEqDiff, Nat.reduceAdd, Nat.reduceSub, Nat.reduceMul, reduceIte, reduceCtorEq, hq, e1, e2, e3, e5, e6, e7] <;> rfl)))); refine sk_id ?_)))
            | ((first | (apply sk_c; rfl; rfl)); (simp only [go_sem, Nat.reduceLT, Nat.reduceLeDiff, Nat.reduceEqDiff, Nat.reduceAdd, Nat.reduceSub, Nat.reduceMul, reduceIte, reduceCtorEq, hq, e1, e2, e3, e5, e6, e7] <;> rfl); (first
                | (refine spec6.mono ?_; rintro _ _ ⟨rfl, rfl⟩)
                | (refine (f68_tr _ b d k1 _ _ _ (get_put_same _ _ _)).mono ?_; rintro _ _ ⟨rfl, rfl⟩)
                | (refine spec14.mono ?_; rintro _ _ ⟨rfl, rfl⟩)
                | (refine (f32_tr [] (by simp) (by simp) _).mono ?_; rintro _ _ ⟨rfl, rfl⟩)); (first | refine sk_id ?_ | (refine ⟨?_, ?_⟩; (repeat (first | exact trivial | ((first | (apply redos_r; rfl; rfl) | (apply redos_g; rfl; rfl; rfl; rfl)); (simp only [go_sem, Nat.reduceLT, Nat.reduceLeDiff, Nat.reduceEqDiff, Nat.reduceAdd, Nat.reduceSub, Nat.reduceMul, reduceIte, reduceCtorEq, hq, e1, e2, e3, e5, e6, e7] <;> rfl)) | (apply redos_s; rfl; rfl; rfl; (simp only [go_sem, Nat.reduceLT, Nat.reduceLeDiff, Nat.reduceEqDiff, Nat.reduceAdd, Nat.reduceSub, Nat.reduceMul, reduceIte, reduceCtorEq, hq, e1, e2, e3, e5, e6, e7] <;> rfl)))); refine sk_id ?_))))
          exact sk_ret ⟨_, (by first | (simp only [aRet, Tryd.results70, aResults, aResult, go_sem, Nat.reduceLT, Nat.reduceLeDiff, Nat.reduceEqDiff, Nat.reduceAdd, Nat.reduceSub, Nat.reduceMul, reduceIte, reduceCtorEq] <;> rfl) | fail), fun s e h => by (rw [hva] at h; cases h), fun _ => rfl, fun b' x h1 h2 => keep2 _ b' x h1 h2⟩
  · have e1 : decide ((k1 : Int) ≥ d.length) = true := by simp; omega
    have hva : valueAt d k1 = none := by
      unfold valueAt; rw [List.getElem?_eq_none (by omega)]
    repeat (first
      | refine sk_seq ?_
      | refine sk_region ?_
      | refine sk_ops_nil ?_
      | refine sk_draw_nil ?_
      | refine sk_block ?_
      | refine sk_blk ?_
      | refine sk_skip ?_
      | refine sk_exit rfl ?_
      | refine sk_draw (id := 4) [0, 1, 2, 3, 4, 5, 6, 7, 8, 9] mixed (by kernel_rfl) ?_
      | ((first | (apply sk_r; rfl; rfl) | (apply sk_w; rfl; rfl) | (apply sk_i; rfl) | (apply sk_g; rfl; rfl) | (apply sk_dr; rfl; rfl; rfl) | (apply sk_dg; rfl; rfl; rfl; rfl; rfl) | apply drd_i | (apply sk_dnr (i := 9) (fl := []); rfl; rfl; decide +kernel; rfl; rfl) | (apply sk_dnw (i := 9) (fl := []); rfl; rfl; decide +kernel; rfl; rfl)); (simp only [go_sem, Nat.reduceLT, Nat.reduceLeDiff, Nat.reduceEqDiff, Nat.reduceAdd, Nat.reduceSub, Nat.reduceMul, reduceIte, reduceCtorEq, e1] <;> rfl); (first | refine sk_id ?_ | refine cs_t ?_ | refine cs_f ?_ | refine gs_t rfl ?_ | refine gs_f rfl ?_ | ((repeat (first | exact trivial | ((first | (apply redos_r; rfl; rfl) | (apply redos_g; rfl; rfl; rfl; rfl)); (simp only [go_sem, Nat.reduceLT, Nat.reduceLeDiff, Nat.reduceEqDiff, Nat.reduceAdd, Nat.reduceSub, Nat.reduceMul, reduceIte, reduceCtorEq, e1] <;> rfl)) | (apply redos_s; rfl; rfl; rfl; (simp only [go_sem, Nat.reduceLT, Nat.reduceLeDiff, Nat.reduceEqDiff, Nat.reduceAdd, Nat.reduceSub, Nat.reduceMul, reduceIte, reduceCtorEq, e1] <;> rfl)))); refine sk_id ?_)))
      | ((first | (apply sk_c; rfl; rfl)); (simp only [go_sem, Nat.reduceLT, Nat.reduceLeDiff, Nat.reduceEqDiff, Nat.reduceAdd, Nat.reduceSub, Nat.reduceMul, reduceIte, reduceCtorEq, e1] <;> rfl); (first
          | (refine spec6.mono ?_; rintro _ _ ⟨rfl, rfl⟩)
          | (refine (f68_tr _ b d k1 _ _ _ (get_put_same _ _ _)).mono ?_; rintro _ _ ⟨rfl, rfl⟩)); (first | refine sk_id ?_ | (refine ⟨?_, ?_⟩; (repeat (first | exact trivial | ((first | (apply redos_r; rfl; rfl) | (apply redos_g; rfl; rfl; rfl; rfl)); (simp only [go_sem, Nat.reduceLT, Nat.reduceLeDiff, Nat.reduceEqDiff, Nat.reduceAdd, Nat.reduceSub, Nat.reduceMul, reduceIte, reduceCtorEq, e1] <;> rfl)) | (apply redos_s; rfl; rfl; rfl; (simp only [go_sem, Nat.reduceLT, Nat.reduceLeDiff, Nat.reduceEqDiff, Nat.reduceAdd, Nat.reduceSub, Nat.reduceMul, reduceIte, reduceCtorEq, e1] <;> rfl)))); refine sk_id ?_))))
    exact sk_ret ⟨_, (by first | (simp only [aRet, Tryd.results70, aResults, aResult, go_sem, Nat.reduceLT, Nat.reduceLeDiff, Nat.reduceEqDiff, Nat.reduceAdd, Nat.reduceSub, Nat.reduceMul, reduceIte, reduceCtorEq] <;> rfl) | fail), fun s e h => by (rw [hva] at h; cases h), fun _ => rfl, fun b' x h1 h2 => keep _ b' x h1 h2⟩
end Go.Proofs.YtophnlmdcidolaaDoor
