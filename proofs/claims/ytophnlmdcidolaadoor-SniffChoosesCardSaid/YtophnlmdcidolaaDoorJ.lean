import Derived.Test.YtophnlmdcidolaaDoorI
set_option linter.all false
namespace Go.Proofs.YtophnlmdcidolaaDoor
open Go Go.Am
/-- name, value, where it ends, whether there is one -/
def attrOf (d : List Nat) (k : Nat) : List Nat × List Nat × Nat × Bool :=
  match d[run (isIn [9, 10, 12, 13, 32, 47]) d k]? with
  | none => ([], [], run (isIn [9, 10, 12, 13, 32, 47]) d k, false)
  | some c =>
    if c = 62 then ([], [], run (isIn [9, 10, 12, 13, 32, 47]) d k, false) else
    match d[nameEnd d (run (isIn [9, 10, 12, 13, 32, 47]) d k + 1)]? with
    | none => ([], [], d.length, false)
    | some _ =>
      if d[blankEnd d (nameEnd d (run (isIn [9, 10, 12, 13, 32, 47]) d k + 1))]? = some 61 then
        match valueAt d (blankEnd d (blankEnd d (nameEnd d (run (isIn [9, 10, 12, 13, 32, 47]) d k + 1)) + 1)) with
        | none => ([], [], d.length, false)
        | some (s, e) => (((d.take (nameEnd d (run (isIn [9, 10, 12, 13, 32, 47]) d k + 1))).drop (run (isIn [9, 10, 12, 13, 32, 47]) d k)).map low, s, e, true)
      else (((d.take (nameEnd d (run (isIn [9, 10, 12, 13, 32, 47]) d k + 1))).drop (run (isIn [9, 10, 12, 13, 32, 47]) d k)).map low, [], blankEnd d (nameEnd d (run (isIn [9, 10, 12, 13, 32, 47]) d k + 1)), true)

def attrAV (r : List Nat × List Nat × Nat × Bool) : AV := .tuple [.agg [.str r.1, .str r.2.1], .int .i64 r.2.2.1, .bool r.2.2.2]
def attrAV4 (r : List Nat × List Nat × Nat × Bool) : AV := .tuple [.str r.1, .str r.2.1, .int .i64 r.2.2.1, .bool r.2.2.2]
end Go.Proofs.YtophnlmdcidolaaDoor
namespace Go.Proofs.YtophnlmdcidolaaDoor
open Go Go.Am
set_option maxHeartbeats 8000000
set_option maxRecDepth 100000

theorem f49_tr (k : Nat) (d : List Nat) (hd : ∀ c ∈ d, c < 256) (hk : k ≤ d.length) (hl : d.length ≤ 1000000) (σ : AHeap) :
    Tr Tryd.prog 49 [.str d, .int .i64 k] σ fun v σ' => v = attrAV (attrOf d k) ∧ σ' = σ := by
  refine Tr.wf fun hW => Tr.pure ?_
  refine sk_body (m := 102) Tryd.func49 rfl (by decide) rfl ?_
  have z1 : decide ((k : Int) < 0) = false := by simp
  have z2 : decide ((k : Int) > d.length) = false := by simp; omega
  repeat (first
    | refine sk_seq ?_
    | refine sk_region ?_
    | refine sk_ops_nil ?_
    | refine sk_draw_nil ?_
    | refine sk_block ?_
    | refine sk_blk ?_
    | refine sk_skip ?_
    | refine sk_exit rfl ?_
    | refine sk_draw (id := 6) [0, 1, 2, 3, 4, 5, 6, 7] mixed (by kernel_rfl) ?_
    | refine sk_draw (id := 13) [0, 1, 2, 3, 4, 5, 6, 7, 8] mixed (by kernel_rfl) ?_
    | refine sk_draw (id := 18) [0, 1, 2, 3, 4, 5, 6, 7, 8, 9] mixed (by kernel_rfl) ?_
    | ((first | (apply sk_r; rfl; rfl) | (apply sk_w; rfl; rfl) | (apply sk_i; rfl) | (apply sk_g; rfl; rfl) | (apply sk_dr; rfl; rfl; rfl) | (apply sk_dg; rfl; rfl; rfl; rfl; rfl) | apply drd_i | (apply sk_dnr (i := 5) (fl := [4, 3, 2, 1]); rfl; rfl; decide +kernel; rfl; rfl) | (apply sk_dnw (i := 5) (fl := [4, 3, 2, 1]); rfl; rfl; decide +kernel; rfl; rfl) | (apply sk_dnr (i := 6) (fl := []); rfl; rfl; decide +kernel; rfl; rfl) | (apply sk_dnw (i := 6) (fl := []); rfl; rfl; decide +kernel; rfl; rfl) | (apply sk_dnr (i := 7) (fl := []); rfl; rfl; decide +kernel; rfl; rfl) | (apply sk_dnw (i := 7) (fl := []); rfl; rfl; decide +kernel; rfl; rfl) | (apply sk_dnr (i := 6) (fl := [5, 4, 3, 2]); rfl; rfl; decide +kernel; rfl; rfl) | (apply sk_dnw (i := 6) (fl := [5, 4, 3, 2]); rfl; rfl; decide +kernel; rfl; rfl) | (apply sk_dnr (i := 7) (fl := []); rfl; rfl; decide +kernel; rfl; rfl) | (apply sk_dnw (i := 7) (fl := []); rfl; rfl; decide +kernel; rfl; rfl) | (apply sk_dnr (i := 8) (fl := []); rfl; rfl; decide +kernel; rfl; rfl) | (apply sk_dnw (i := 8) (fl := []); rfl; rfl; decide +kernel; rfl; rfl) | (apply sk_dnr (i := 7) (fl := [6, 5, 4, 3]); rfl; rfl; decide +kernel; rfl; rfl) | (apply sk_dnw (i := 7) (fl := [6, 5, 4, 3]); rfl; rfl; decide +kernel; rfl; rfl) | (apply sk_dnr (i := 8) (fl := []); rfl; rfl; decide +kernel; rfl; rfl) | (apply sk_dnw (i := 8) (fl := []); rfl; rfl; decide +kernel; rfl; rfl) | (apply sk_dnr (i := 9) (fl := []); rfl; rfl; decide +kernel; rfl; rfl) | (apply sk_dnw (i := 9) (fl := []); rfl; rfl; decide +kernel; rfl; rfl)); (simp only [go_sem, Nat.reduceLT, Nat.reduceLeDiff, Nat.reduceEqDiff, Nat.reduceAdd, Nat.reduceSub, Nat.reduceMul, reduceIte, reduceCtorEq, z1, z2] <;> rfl); (first | refine sk_id ?_ | refine cs_t ?_ | refine cs_f ?_ | refine gs_t rfl ?_ | refine gs_f rfl ?_ | ((repeat (first | exact trivial | ((first | (apply redos_r; rfl; rfl) | (apply redos_g; rfl; rfl; rfl; rfl)); (simp only [go_sem, Nat.reduceLT, Nat.reduceLeDiff, Nat.reduceEqDiff, Nat.reduceAdd, Nat.reduceSub, Nat.reduceMul, reduceIte, reduceCtorEq, z1, z2] <;> rfl)) | (apply redos_s; rfl; rfl; rfl; (simp only [go_sem, Nat.reduceLT, Nat.reduceLeDiff, Nat.reduceEqDiff, Nat.reduceAdd, Nat.reduceSub, Nat.reduceMul, reduceIte, reduceCtorEq, z1, z2] <;> rfl)))); refine sk_id ?_))))
  obtain ⟨H, hH⟩ : ∃ H, H = (σ.push (.cells [.str [], .str []] false 0 [])).push (rdr d k) := ⟨_, rfl⟩
  have hb : H.m.get (σ.next + 1) = some (rdr d k) := by rw [hH]; exact get_push_same (σ.push (.cells [.str [], .str []] false 0 [])) _
  have h0 : H.m.get σ.next = some (.cells [.str [], .str []] false 0 []) := by rw [hH, get_push, if_neg (by rw [next_push]; omega), get_push_same]
  have hkeep : ∀ b x, σ.m.get b = some x → H.m.get b = some x := fun b x h => by
    have := wf_lt hW h
    rw [hH, get_push, if_neg (by rw [next_push]; omega), get_push, if_neg (by omega)]; exact h
  change SK Tryd.prog 102 _ _ .normal _ ((σ.push (.cells [.str [], .str []] false 0 [])).push (rdr d k))
  rw [← hH]
  clear hH
  have g0 : ∀ X, (H.put (σ.next + 1) X []).m.get σ.next = some (.cells [.str [], .str []] false 0 []) := fun X => by rw [get_put, if_neg (by omega)]; exact h0
  have g1 : ∀ X A, ((H.put (σ.next + 1) X []).put σ.next A []).m.get (σ.next + 1) = some X := fun X A => by rw [get_put, if_neg (by omega), get_put_same]
  have keep : ∀ X A b x, σ.m.get b = some x → ((H.put (σ.next + 1) X []).put σ.next A []).m.get b = some x := fun X A b x h => by
    have := wf_lt hW h
    rw [get_put, if_neg (by omega), get_put, if_neg (by omega)]; exact hkeep b x h
  have s6 := f67_tr (σ.next + 1) k d [9, 10, 12, 13, 32, 47] hd hl H hb
  have hk1 : run (isIn [9, 10, 12, 13, 32, 47]) d k ≤ d.length := run_le hk
  unfold attrOf
  generalize run (isIn [9, 10, 12, 13, 32, 47]) d k = k1 at *
  by_cases hlt : k1 < d.length
  · obtain ⟨c, hc⟩ := at_some hlt
    have hc8 := hd c (at_mem hc)
    simp only [hc]
    have e1 : decide ((k1 : Int) ≥ d.length) = false := by simp; omega
    have e2 : (0 : Int) ≤ (k1 : Int) := by omega
    by_cases h62 : c = 62
    · rw [if_pos h62]
      have e3 : ((c : Int) == 62) = true := by simp; omega
      repeat (first
        | refine sk_seq ?_
        | refine sk_region ?_
        | refine sk_ops_nil ?_
        | refine sk_draw_nil ?_
        | refine sk_block ?_
        | refine sk_blk ?_
        | refine sk_skip ?_
        | refine sk_exit rfl ?_
        | refine sk_draw (id := 6) [0, 1, 2, 3, 4, 5, 6, 7] mixed (by kernel_rfl) ?_
        | refine sk_draw (id := 13) [0, 1, 2, 3, 4, 5, 6, 7, 8] mixed (by kernel_rfl) ?_
        | refine sk_draw (id := 18) [0, 1, 2, 3, 4, 5, 6, 7, 8, 9] mixed (by kernel_rfl) ?_
        | ((first | (apply sk_r; rfl; rfl) | (apply sk_w; rfl; rfl) | (apply sk_i; rfl) | (apply sk_g; rfl; rfl) | (apply sk_dr; rfl; rfl; rfl) | (apply sk_dg; rfl; rfl; rfl; rfl; rfl) | apply drd_i | (apply sk_dnr (i := 5) (fl := [4, 3, 2, 1]); rfl; rfl; decide +kernel; rfl; rfl) | (apply sk_dnw (i := 5) (fl := [4, 3, 2, 1]); rfl; rfl; decide +kernel; rfl; rfl) | (apply sk_dnr (i := 6) (fl := []); rfl; rfl; decide +kernel; rfl; rfl) | (apply sk_dnw (i := 6) (fl := []); rfl; rfl; decide +kernel; rfl; rfl) | (apply sk_dnr (i := 7) (fl := []); rfl; rfl; decide +kernel; rfl; rfl) | (apply sk_dnw (i := 7) (fl := []); rfl; rfl; decide +kernel; rfl; rfl) | (apply sk_dnr (i := 6) (fl := [5, 4, 3, 2]); rfl; rfl; decide +kernel; rfl; rfl) | (apply sk_dnw (i := 6) (fl := [5, 4, 3, 2]); rfl; rfl; decide +kernel; rfl; rfl) | (apply sk_dnr (i := 7) (fl := []); rfl; rfl; decide +kernel; rfl; rfl) | (apply sk_dnw (i := 7) (fl := []); rfl; rfl; decide +kernel; rfl; rfl) | (apply sk_dnr (i := 8) (fl := []); rfl; rfl; decide +kernel; rfl; rfl) | (apply sk_dnw (i := 8) (fl := []); rfl; rfl; decide +kernel; rfl; rfl) | (apply sk_dnr (i := 7) (fl := [6, 5, 4, 3]); rfl; rfl; decide +kernel; rfl; rfl) | (apply sk_dnw (i := 7) (fl := [6, 5, 4, 3]); rfl; rfl; decide +kernel; rfl; rfl) | (apply sk_dnr (i := 8) (fl := []); rfl; rfl; decide +kernel; rfl; rfl) | (apply sk_dnw (i := 8) (fl := []); rfl; rfl; decide +kernel; rfl; rfl) | (apply sk_dnr (i := 9) (fl := []); rfl; rfl; decide +kernel; rfl; rfl) | (apply sk_dnw (i := 9) (fl := []); rfl; rfl; decide +kernel; rfl; rfl)); (simp only [go_sem, Nat.reduceLT, Nat.reduceLeDiff, Nat.reduceEqDiff, Nat.reduceAdd, Nat.reduceSub, Nat.reduceMul, reduceIte, reduceCtorEq, g0, g1, e1, e2, e3, hc] <;> rfl); (first | refine sk_id ?_ | refine cs_t ?_ | refine cs_f ?_ | refine gs_t rfl ?_ | refine gs_f rfl ?_ | ((repeat (first | exact trivial | ((first | (apply redos_r; rfl; rfl) | (apply redos_g; rfl; rfl; rfl; rfl)); (simp only [go_sem, Nat.reduceLT, Nat.reduceLeDiff, Nat.reduceEqDiff, Nat.reduceAdd, Nat.reduceSub, Nat.reduceMul, reduceIte, reduceCtorEq, g0, g1, e1, e2, e3, hc] <;> rfl)) | (apply redos_s; rfl; rfl; rfl; (simp only [go_sem, Nat.reduceLT, Nat.reduceLeDiff, Nat.reduceEqDiff, Nat.reduceAdd, Nat.reduceSub, Nat.reduceMul, reduceIte, reduceCtorEq, g0, g1, e1, e2, e3, hc] <;> rfl)))); refine sk_id ?_)))
        | ((first | (apply sk_c; rfl; rfl)); (simp only [go_sem, Nat.reduceLT, Nat.reduceLeDiff, Nat.reduceEqDiff, Nat.reduceAdd, Nat.reduceSub, Nat.reduceMul, reduceIte, reduceCtorEq, g0, g1, e1, e2, e3, hc] <;> rfl); (first
            | (refine s6.mono ?_; rintro _ _ ⟨rfl, rfl⟩)
            | (refine s8.mono ?_; rintro _ _ ⟨rfl, rfl⟩)
            | (refine (f68_tr _ _ d k1 _ _ _ (get_put_same _ _ _)).mono ?_; rintro _ _ ⟨rfl, rfl⟩)
            | (refine (f68_tr _ _ d n _ _ _ (get_put_same _ _ _)).mono ?_; rintro _ _ ⟨rfl, rfl⟩)
            | (refine (f68_tr _ _ d k2 _ _ _ (get_put_same _ _ _)).mono ?_; rintro _ _ ⟨rfl, rfl⟩)
            | (refine (f33_tr _ hx8 _).mono ?_; rintro _ _ ⟨rfl, rfl⟩)
            | (refine (s6b _ (get_put_same _ _ _)).mono ?_; rintro _ _ ⟨rfl, rfl⟩)); (first | refine sk_id ?_ | (refine ⟨?_, ?_⟩; (repeat (first | exact trivial | ((first | (apply redos_r; rfl; rfl) | (apply redos_g; rfl; rfl; rfl; rfl)); (simp only [go_sem, Nat.reduceLT, Nat.reduceLeDiff, Nat.reduceEqDiff, Nat.reduceAdd, Nat.reduceSub, Nat.reduceMul, reduceIte, reduceCtorEq, g0, g1, e1, e2, e3, hc] <;> rfl)) | (apply redos_s; rfl; rfl; rfl; (simp only [go_sem, Nat.reduceLT, Nat.reduceLeDiff, Nat.reduceEqDiff, Nat.reduceAdd, Nat.reduceSub, Nat.reduceMul, reduceIte, reduceCtorEq, g0, g1, e1, e2, e3, hc] <;> rfl)))); refine sk_id ?_))))
      exact sk_ret ⟨_, (by first | (simp only [aRet, Tryd.results49, aResults, aResult, go_sem, Nat.reduceLT, Nat.reduceLeDiff, Nat.reduceEqDiff, Nat.reduceAdd, Nat.reduceSub, Nat.reduceMul, reduceIte, reduceCtorEq] <;> rfl) | fail), rfl, fun b x h => keep _ _ b x h, by exact ⟨rfl, by trivial⟩⟩
    · rw [if_neg h62]
      have e3 : ((c : Int) == 62) = false := by simp; omega
      have s8 := f69_tr (σ.next + 1) k1 d hd hlt hl _ (get_put_same H (σ.next + 1) (rdr d k1))
      generalize nameEnd d (k1 + 1) = n at *
      by_cases hn : n < d.length
      · have s8 := s8.mono fun v σ' h => h.1 hn
        obtain ⟨x, hx⟩ := at_some hn
        have hx8 := hd x (at_mem hx)
        simp only [hx]
        have m2 : (0 : Int) ≤ (n : Int) := by omega
        have s6b := fun τ hb => f67_tr (σ.next + 1) n d [9, 10, 12, 13, 32] hd hl τ hb
        have hk2 : blankEnd d n ≤ d.length := run_le (by omega)
        simp only [show ∀ a b, run (isIn [9, 10, 12, 13, 32]) a b = blankEnd a b from fun _ _ => rfl] at s6b
        cases hbl : isIn [9, 10, 12, 13, 32] x
        · have e4 : decide (idx [9, 10, 12, 13, 32] x ≥ 0) = false := hbl
          rw [show blankEnd d n = n from run_stop hx hbl]
          have m4 : (0 : Int) ≤ (n : Int) := by omega
          by_cases h2 : n < d.length
          · obtain ⟨y, hy⟩ := at_some h2
            have hy8 := hd y (at_mem hy)
            have hyx : y = x := by (rw [hx] at hy; simpa using hy.symm)
            subst hyx
            have e6 : decide ((n : Int) ≥ d.length) = false := by simp; omega
            by_cases h61 : y = 61
            · have e5 : ((y : Int) != 61) = false := by simp; omega
              have e7 : IntKind.wrap .i64 ((n : Int) + 1) = ((n + 1 : Nat) : Int) := wrap_i64 (by omega) (by omega)
              rw [if_pos (by rw [hy, h61])]
              repeat (first
                | refine sk_seq ?_
                | refine sk_region ?_
                | refine sk_ops_nil ?_
                | refine sk_draw_nil ?_
                | refine sk_block ?_
                | refine sk_blk ?_
                | refine sk_skip ?_
                | refine sk_exit rfl ?_
                | refine sk_draw (id := 6) [0, 1, 2, 3, 4, 5, 6, 7] mixed (by kernel_rfl) ?_
                | refine sk_draw (id := 13) [0, 1, 2, 3, 4, 5, 6, 7, 8] mixed (by kernel_rfl) ?_
                | refine sk_draw (id := 18) [0, 1, 2, 3, 4, 5, 6, 7, 8, 9] mixed (by kernel_rfl) ?_
                | ((first | (apply sk_r; rfl; rfl) | (apply sk_w; rfl; rfl) | (apply sk_i; rfl) | (apply sk_g; rfl; rfl) | (apply sk_dr; rfl; rfl; rfl) | (apply sk_dg; rfl; rfl; rfl; rfl; rfl) | apply drd_i | (apply sk_dnr (i := 5) (fl := [4, 3, 2, 1]); rfl; rfl; decide +kernel; rfl; rfl) | (apply sk_dnw (i := 5) (fl := [4, 3, 2, 1]); rfl; rfl; decide +kernel; rfl; rfl) | (apply sk_dnr (i := 6) (fl := []); rfl; rfl; decide +kernel; rfl; rfl) | (apply sk_dnw (i := 6) (fl := []); rfl; rfl; decide +kernel; rfl; rfl) | (apply sk_dnr (i := 7) (fl := []); rfl; rfl; decide +kernel; rfl; rfl) | (apply sk_dnw (i := 7) (fl := []); rfl; rfl; decide +kernel; rfl; rfl) | (apply sk_dnr (i := 6) (fl := [5, 4, 3, 2]); rfl; rfl; decide +kernel; rfl; rfl) | (apply sk_dnw (i := 6) (fl := [5, 4, 3, 2]); rfl; rfl; decide +kernel; rfl; rfl) | (apply sk_dnr (i := 7) (fl := []); rfl; rfl; decide +kernel; rfl; rfl) | (apply sk_dnw (i := 7) (fl := []); rfl; rfl; decide +kernel; rfl; rfl) | (apply sk_dnr (i := 8) (fl := []); rfl; rfl; decide +kernel; rfl; rfl) | (apply sk_dnw (i := 8) (fl := []); rfl; rfl; decide +kernel; rfl; rfl) | (apply sk_dnr (i := 7) (fl := [6, 5, 4, 3]); rfl; rfl; decide +kernel; rfl; rfl) | (apply sk_dnw (i := 7) (fl := [6, 5, 4, 3]); rfl; rfl; decide +kernel; rfl; rfl) | (apply sk_dnr (i := 8) (fl := []); rfl; rfl; decide +kernel; rfl; rfl) | (apply sk_dnw (i := 8) (fl := []); rfl; rfl; decide +kernel; rfl; rfl) | (apply sk_dnr (i := 9) (fl := []); rfl; rfl; decide +kernel; rfl; rfl) | (apply sk_dnw (i := 9) (fl := []); rfl; rfl; decide +kernel; rfl; rfl)); (simp only [go_sem, Nat.reduceLT, Nat.reduceLeDiff, Nat.reduceEqDiff, Nat.reduceAdd, Nat.reduceSub, Nat.reduceMul, reduceIte, reduceCtorEq, g0, g1, e1, e2, e3, hc, m2, m4, e4, e5, e6, e7, hx, hy] <;> rfl); (first | refine sk_id ?_ | refine cs_t ?_ | refine cs_f ?_ | refine gs_t rfl ?_ | refine gs_f rfl ?_ | ((repeat (first | exact trivial | ((first | (apply redos_r; rfl; rfl) | (apply redos_g; rfl; rfl; rfl; rfl)); (simp only [go_sem, Nat.reduceLT, Nat.reduceLeDiff, Nat.reduceEqDiff, Nat.reduceAdd, Nat.reduceSub, Nat.reduceMul, reduceIte, reduceCtorEq, g0, g1, e1, e2, e3, hc, m2, m4, e4, e5, e6, e7, hx, hy] <;> rfl)) | (apply redos_s; rfl; rfl; rfl; (simp only [go_sem, Nat.reduceLT, Nat.reduceLeDiff, Nat.reduceEqDiff, Nat.reduceAdd, Nat.reduceSub, Nat.reduceMul, reduceIte, reduceCtorEq, g0, g1, e1, e2, e3, hc, m2, m4, e4, e5, e6, e7, hx, hy] <;> rfl)))); refine sk_id ?_)))
                | ((first | (apply sk_c; rfl; rfl)); (simp only [go_sem, Nat.reduceLT, Nat.reduceLeDiff, Nat.reduceEqDiff, Nat.reduceAdd, Nat.reduceSub, Nat.reduceMul, reduceIte, reduceCtorEq, g0, g1, e1, e2, e3, hc, m2, m4, e4, e5, e6, e7, hx, hy] <;> rfl); (first
                    | (refine s6.mono ?_; rintro _ _ ⟨rfl, rfl⟩)
                    | (refine s8.mono ?_; rintro _ _ ⟨rfl, rfl⟩)
                    | (refine (f68_tr _ _ d k1 _ _ _ (get_put_same _ _ _)).mono ?_; rintro _ _ ⟨rfl, rfl⟩)
                    | (refine (f68_tr _ _ d n _ _ _ (get_put_same _ _ _)).mono ?_; rintro _ _ ⟨rfl, rfl⟩)
                    | (refine (f68_tr _ _ d k2 _ _ _ (get_put_same _ _ _)).mono ?_; rintro _ _ ⟨rfl, rfl⟩)
                    | (refine (f33_tr _ hx8 _).mono ?_; rintro _ _ ⟨rfl, rfl⟩)
                    | (refine (s6b _ (get_put_same _ _ _)).mono ?_; rintro _ _ ⟨rfl, rfl⟩)); (first | refine sk_id ?_ | (refine ⟨?_, ?_⟩; (repeat (first | exact trivial | ((first | (apply redos_r; rfl; rfl) | (apply redos_g; rfl; rfl; rfl; rfl)); (simp only [go_sem, Nat.reduceLT, Nat.reduceLeDiff, Nat.reduceEqDiff, Nat.reduceAdd, Nat.reduceSub, Nat.reduceMul, reduceIte, reduceCtorEq, g0, g1, e1, e2, e3, hc, m2, m4, e4, e5, e6, e7, hx, hy] <;> rfl)) | (apply redos_s; rfl; rfl; rfl; (simp only [go_sem, Nat.reduceLT, Nat.reduceLeDiff, Nat.reduceEqDiff, Nat.reduceAdd, Nat.reduceSub, Nat.reduceMul, reduceIte, reduceCtorEq, g0, g1, e1, e2, e3, hc, m2, m4, e4, e5, e6, e7, hx, hy] <;> rfl)))); refine sk_id ?_))))
              refine sk_call rfl (by first | (simp only [go_sem, Nat.reduceLT, Nat.reduceLeDiff, Nat.reduceEqDiff, Nat.reduceAdd, Nat.reduceSub, Nat.reduceMul, reduceIte, reduceCtorEq] <;> rfl) | fail) ?_
              refine (f70_tr (σ.next + 1) (n + 1) d hd (by omega) hl _ (get_put_same _ _ _)).mono ?_
              rintro v σ2 ⟨p1, p2, p3⟩
              have q0 := p3 σ.next _ (by omega) (g0 _)
              have keep2 : ∀ A b x, σ.m.get b = some x → (σ2.put σ.next A []).m.get b = some x := fun A b x h => by
                have := wf_lt hW h
                rw [get_put, if_neg (by omega)]
                exact p3 b x (by omega) (by rw [get_put, if_neg (by omega)]; exact hkeep b x h)
              cases hv : valueAt d (blankEnd d (n + 1)) with
              | none =>
                obtain rfl := p2 hv
                repeat (first
                  | refine sk_seq ?_
                  | refine sk_region ?_
                  | refine sk_ops_nil ?_
                  | refine sk_draw_nil ?_
                  | refine sk_block ?_
                  | refine sk_blk ?_
                  | refine sk_skip ?_
                  | refine sk_exit rfl ?_
                  | refine sk_draw (id := 6) [0, 1, 2, 3, 4, 5, 6, 7] mixed (by kernel_rfl) ?_
                  | refine sk_draw (id := 13) [0, 1, 2, 3, 4, 5, 6, 7, 8] mixed (by kernel_rfl) ?_
                  | refine sk_draw (id := 18) [0, 1, 2, 3, 4, 5, 6, 7, 8, 9] mixed (by kernel_rfl) ?_
                  | ((first | (apply sk_r; rfl; rfl) | (apply sk_w; rfl; rfl) | (apply sk_i; rfl) | (apply sk_g; rfl; rfl) | (apply sk_dr; rfl; rfl; rfl) | (apply sk_dg; rfl; rfl; rfl; rfl; rfl) | apply drd_i | (apply sk_dnr (i := 5) (fl := [4, 3, 2, 1]); rfl; rfl; decide +kernel; rfl; rfl) | (apply sk_dnw (i := 5) (fl := [4, 3, 2, 1]); rfl; rfl; decide +kernel; rfl; rfl) | (apply sk_dnr (i := 6) (fl := []); rfl; rfl; decide +kernel; rfl; rfl) | (apply sk_dnw (i := 6) (fl := []); rfl; rfl; decide +kernel; rfl; rfl) | (apply sk_dnr (i := 7) (fl := []); rfl; rfl; decide +kernel; rfl; rfl) | (apply sk_dnw (i := 7) (fl := []); rfl; rfl; decide +kernel; rfl; rfl) | (apply sk_dnr (i := 6) (fl := [5, 4, 3, 2]); rfl; rfl; decide +kernel; rfl; rfl) | (apply sk_dnw (i := 6) (fl := [5, 4, 3, 2]); rfl; rfl; decide +kernel; rfl; rfl) | (apply sk_dnr (i := 7) (fl := []); rfl; rfl; decide +kernel; rfl; rfl) | (apply sk_dnw (i := 7) (fl := []); rfl; rfl; decide +kernel; rfl; rfl) | (apply sk_dnr (i := 8) (fl := []); rfl; rfl; decide +kernel; rfl; rfl) | (apply sk_dnw (i := 8) (fl := []); rfl; rfl; decide +kernel; rfl; rfl) | (apply sk_dnr (i := 7) (fl := [6, 5, 4, 3]); rfl; rfl; decide +kernel; rfl; rfl) | (apply sk_dnw (i := 7) (fl := [6, 5, 4, 3]); rfl; rfl; decide +kernel; rfl; rfl) | (apply sk_dnr (i := 8) (fl := []); rfl; rfl; decide +kernel; rfl; rfl) | (apply sk_dnw (i := 8) (fl := []); rfl; rfl; decide +kernel; rfl; rfl) | (apply sk_dnr (i := 9) (fl := []); rfl; rfl; decide +kernel; rfl; rfl) | (apply sk_dnw (i := 9) (fl := []); rfl; rfl; decide +kernel; rfl; rfl)); (simp only [go_sem, Nat.reduceLT, Nat.reduceLeDiff, Nat.reduceEqDiff, Nat.reduceAdd, Nat.reduceSub, Nat.reduceMul, reduceIte, reduceCtorEq, q0] <;> rfl); (first | refine sk_id ?_ | refine cs_t ?_ | refine cs_f ?_ | refine gs_t rfl ?_ | refine gs_f rfl ?_ | ((repeat (first | exact trivial | ((first | (apply redos_r; rfl; rfl) | (apply redos_g; rfl; rfl; rfl; rfl)); (simp only [go_sem, Nat.reduceLT, Nat.reduceLeDiff, Nat.reduceEqDiff, Nat.reduceAdd, Nat.reduceSub, Nat.reduceMul, reduceIte, reduceCtorEq, q0] <;> rfl)) | (apply redos_s; rfl; rfl; rfl; (simp only [go_sem, Nat.reduceLT, Nat.reduceLeDiff, Nat.reduceEqDiff, Nat.reduceAdd, Nat.reduceSub, Nat.reduceMul, reduceIte, reduceCtorEq, q0] <;> rfl)))); refine sk_id ?_))))
                exact sk_ret ⟨_, (by first | (simp only [aRet, Tryd.results49, aResults, aResult, go_sem, Nat.reduceLT, Nat.reduceLeDiff, Nat.reduceEqDiff, Nat.reduceAdd, Nat.reduceSub, Nat.reduceMul, reduceIte, reduceCtorEq] <;> rfl) | fail), rfl, fun b x h => keep2 _ b x h, by exact ⟨rfl, by trivial⟩⟩
              | some r =>
                obtain ⟨s, e⟩ := r
                obtain ⟨rfl, q1⟩ := p1 s e hv
                have q3 : ∀ A, (σ2.put σ.next A []).m.get (σ.next + 1) = some (rdr d e) := fun A => by rw [get_put, if_neg (by omega)]; exact q1
                repeat (first
                  | refine sk_seq ?_
                  | refine sk_region ?_
                  | refine sk_ops_nil ?_
                  | refine sk_draw_nil ?_
                  | refine sk_block ?_
                  | refine sk_blk ?_
                  | refine sk_skip ?_
                  | refine sk_exit rfl ?_
                  | refine sk_draw (id := 6) [0, 1, 2, 3, 4, 5, 6, 7] mixed (by kernel_rfl) ?_
                  | refine sk_draw (id := 13) [0, 1, 2, 3, 4, 5, 6, 7, 8] mixed (by kernel_rfl) ?_
                  | refine sk_draw (id := 18) [0, 1, 2, 3, 4, 5, 6, 7, 8, 9] mixed (by kernel_rfl) ?_
                  | ((first | (apply sk_r; rfl; rfl) | (apply sk_w; rfl; rfl) | (apply sk_i; rfl) | (apply sk_g; rfl; rfl) | (apply sk_dr; rfl; rfl; rfl) | (apply sk_dg; rfl; rfl; rfl; rfl; rfl) | apply drd_i | (apply sk_dnr (i := 5) (fl := [4, 3, 2, 1]); rfl; rfl; decide +kernel; rfl; rfl) | (apply sk_dnw (i := 5) (fl := [4, 3, 2, 1]); rfl; rfl; decide +kernel; rfl; rfl) | (apply sk_dnr (i := 6) (fl := []); rfl; rfl; decide +kernel; rfl; rfl) | (apply sk_dnw (i := 6) (fl := []); rfl; rfl; decide +kernel; rfl; rfl) | (apply sk_dnr (i := 7) (fl := []); rfl; rfl; decide +kernel; rfl; rfl) | (apply sk_dnw (i := 7) (fl := []); rfl; rfl; decide +kernel; rfl; rfl) | (apply sk_dnr (i := 6) (fl := [5, 4, 3, 2]); rfl; rfl; decide +kernel; rfl; rfl) | (apply sk_dnw (i := 6) (fl := [5, 4, 3, 2]); rfl; rfl; decide +kernel; rfl; rfl) | (apply sk_dnr (i := 7) (fl := []); rfl; rfl; decide +kernel; rfl; rfl) | (apply sk_dnw (i := 7) (fl := []); rfl; rfl; decide +kernel; rfl; rfl) | (apply sk_dnr (i := 8) (fl := []); rfl; rfl; decide +kernel; rfl; rfl) | (apply sk_dnw (i := 8) (fl := []); rfl; rfl; decide +kernel; rfl; rfl) | (apply sk_dnr (i := 7) (fl := [6, 5, 4, 3]); rfl; rfl; decide +kernel; rfl; rfl) | (apply sk_dnw (i := 7) (fl := [6, 5, 4, 3]); rfl; rfl; decide +kernel; rfl; rfl) | (apply sk_dnr (i := 8) (fl := []); rfl; rfl; decide +kernel; rfl; rfl) | (apply sk_dnw (i := 8) (fl := []); rfl; rfl; decide +kernel; rfl; rfl) | (apply sk_dnr (i := 9) (fl := []); rfl; rfl; decide +kernel; rfl; rfl) | (apply sk_dnw (i := 9) (fl := []); rfl; rfl; decide +kernel; rfl; rfl)); (simp only [go_sem, Nat.reduceLT, Nat.reduceLeDiff, Nat.reduceEqDiff, Nat.reduceAdd, Nat.reduceSub, Nat.reduceMul, reduceIte, reduceCtorEq, q0, q1, q3] <;> rfl); (first | refine sk_id ?_ | refine cs_t ?_ | refine cs_f ?_ | refine gs_t rfl ?_ | refine gs_f rfl ?_ | ((repeat (first | exact trivial | ((first | (apply redos_r; rfl; rfl) | (apply redos_g; rfl; rfl; rfl; rfl)); (simp only [go_sem, Nat.reduceLT, Nat.reduceLeDiff, Nat.reduceEqDiff, Nat.reduceAdd, Nat.reduceSub, Nat.reduceMul, reduceIte, reduceCtorEq, q0, q1, q3] <;> rfl)) | (apply redos_s; rfl; rfl; rfl; (simp only [go_sem, Nat.reduceLT, Nat.reduceLeDiff, Nat.reduceEqDiff, Nat.reduceAdd, Nat.reduceSub, Nat.reduceMul, reduceIte, reduceCtorEq, q0, q1, q3] <;> rfl)))); refine sk_id ?_))))
                exact sk_ret ⟨_, (by first | (simp only [aRet, Tryd.results49, aResults, aResult, go_sem, Nat.reduceLT, Nat.reduceLeDiff, Nat.reduceEqDiff, Nat.reduceAdd, Nat.reduceSub, Nat.reduceMul, reduceIte, reduceCtorEq] <;> rfl) | fail), rfl, fun b x h => keep2 _ b x h, by exact ⟨rfl, by trivial⟩⟩
            · have e5 : ((y : Int) != 61) = true := by simp; omega
              rw [if_neg (by rw [hy]; simp; omega)]
              repeat (first
                | refine sk_seq ?_
                | refine sk_region ?_
                | refine sk_ops_nil ?_
                | refine sk_draw_nil ?_
                | refine sk_block ?_
                | refine sk_blk ?_
                | refine sk_skip ?_
                | refine sk_exit rfl ?_
                | refine sk_draw (id := 6) [0, 1, 2, 3, 4, 5, 6, 7] mixed (by kernel_rfl) ?_
                | refine sk_draw (id := 13) [0, 1, 2, 3, 4, 5, 6, 7, 8] mixed (by kernel_rfl) ?_
                | refine sk_draw (id := 18) [0, 1, 2, 3, 4, 5, 6, 7, 8, 9] mixed (by kernel_rfl) ?_
                | ((first | (apply sk_r; rfl; rfl) | (apply sk_w; rfl; rfl) | (apply sk_i; rfl) | (apply sk_g; rfl; rfl) | (apply sk_dr; rfl; rfl; rfl) | (apply sk_dg; rfl; rfl; rfl; rfl; rfl) | apply drd_i | (apply sk_dnr (i := 5) (fl := [4, 3, 2, 1]); rfl; rfl; decide +kernel; rfl; rfl) | (apply sk_dnw (i := 5) (fl := [4, 3, 2, 1]); rfl; rfl; decide +kernel; rfl; rfl) | (apply sk_dnr (i := 6) (fl := []); rfl; rfl; decide +kernel; rfl; rfl) | (apply sk_dnw (i := 6) (fl := []); rfl; rfl; decide +kernel; rfl; rfl) | (apply sk_dnr (i := 7) (fl := []); rfl; rfl; decide +kernel; rfl; rfl) | (apply sk_dnw (i := 7) (fl := []); rfl; rfl; decide +kernel; rfl; rfl) | (apply sk_dnr (i := 6) (fl := [5, 4, 3, 2]); rfl; rfl; decide +kernel; rfl; rfl) | (apply sk_dnw (i := 6) (fl := [5, 4, 3, 2]); rfl; rfl; decide +kernel; rfl; rfl) | (apply sk_dnr (i := 7) (fl := []); rfl; rfl; decide +kernel; rfl; rfl) | (apply sk_dnw (i := 7) (fl := []); rfl; rfl; decide +kernel; rfl; rfl) | (apply sk_dnr (i := 8) (fl := []); rfl; rfl; decide +kernel; rfl; rfl) | (apply sk_dnw (i := 8) (fl := []); rfl; rfl; decide +kernel; rfl; rfl) | (apply sk_dnr (i := 7) (fl := [6, 5, 4, 3]); rfl; rfl; decide +kernel; rfl; rfl) | (apply sk_dnw (i := 7) (fl := [6, 5, 4, 3]); rfl; rfl; decide +kernel; rfl; rfl) | (apply sk_dnr (i := 8) (fl := []); rfl; rfl; decide +kernel; rfl; rfl) | (apply sk_dnw (i := 8) (fl := []); rfl; rfl; decide +kernel; rfl; rfl) | (apply sk_dnr (i := 9) (fl := []); rfl; rfl; decide +kernel; rfl; rfl) | (apply sk_dnw (i := 9) (fl := []); rfl; rfl; decide +kernel; rfl; rfl)); (simp only [go_sem, Nat.reduceLT, Nat.reduceLeDiff, Nat.reduceEqDiff, Nat.reduceAdd, Nat.reduceSub, Nat.reduceMul, reduceIte, reduceCtorEq, g0, g1, e1, e2, e3, hc, m2, m4, e4, e5, e6, hx, hy] <;> rfl); (first | refine sk_id ?_ | refine cs_t ?_ | refine cs_f ?_ | refine gs_t rfl ?_ | refine gs_f rfl ?_ | ((repeat (first | exact trivial | ((first | (apply redos_r; rfl; rfl) | (apply redos_g; rfl; rfl; rfl; rfl)); (simp only [go_sem, Nat.reduceLT, Nat.reduceLeDiff, Nat.reduceEqDiff, Nat.reduceAdd, Nat.reduceSub, Nat.reduceMul, reduceIte, reduceCtorEq, g0, g1, e1, e2, e3, hc, m2, m4, e4, e5, e6, hx, hy] <;> rfl)) | (apply redos_s; rfl; rfl; rfl; (simp only [go_sem, Nat.reduceLT, Nat.reduceLeDiff, Nat.reduceEqDiff, Nat.reduceAdd, Nat.reduceSub, Nat.reduceMul, reduceIte, reduceCtorEq, g0, g1, e1, e2, e3, hc, m2, m4, e4, e5, e6, hx, hy] <;> rfl)))); refine sk_id ?_)))
                | ((first | (apply sk_c; rfl; rfl)); (simp only [go_sem, Nat.reduceLT, Nat.reduceLeDiff, Nat.reduceEqDiff, Nat.reduceAdd, Nat.reduceSub, Nat.reduceMul, reduceIte, reduceCtorEq, g0, g1, e1, e2, e3, hc, m2, m4, e4, e5, e6, hx, hy] <;> rfl); (first
                    | (refine s6.mono ?_; rintro _ _ ⟨rfl, rfl⟩)
                    | (refine s8.mono ?_; rintro _ _ ⟨rfl, rfl⟩)
                    | (refine (f68_tr _ _ d k1 _ _ _ (get_put_same _ _ _)).mono ?_; rintro _ _ ⟨rfl, rfl⟩)
                    | (refine (f68_tr _ _ d n _ _ _ (get_put_same _ _ _)).mono ?_; rintro _ _ ⟨rfl, rfl⟩)
                    | (refine (f68_tr _ _ d k2 _ _ _ (get_put_same _ _ _)).mono ?_; rintro _ _ ⟨rfl, rfl⟩)
                    | (refine (f33_tr _ hx8 _).mono ?_; rintro _ _ ⟨rfl, rfl⟩)
                    | (refine (s6b _ (get_put_same _ _ _)).mono ?_; rintro _ _ ⟨rfl, rfl⟩)); (first | refine sk_id ?_ | (refine ⟨?_, ?_⟩; (repeat (first | exact trivial | ((first | (apply redos_r; rfl; rfl) | (apply redos_g; rfl; rfl; rfl; rfl)); (simp only [go_sem, Nat.reduceLT, Nat.reduceLeDiff, Nat.reduceEqDiff, Nat.reduceAdd, Nat.reduceSub, Nat.reduceMul, reduceIte, reduceCtorEq, g0, g1, e1, e2, e3, hc, m2, m4, e4, e5, e6, hx, hy] <;> rfl)) | (apply redos_s; rfl; rfl; rfl; (simp only [go_sem, Nat.reduceLT, Nat.reduceLeDiff, Nat.reduceEqDiff, Nat.reduceAdd, Nat.reduceSub, Nat.reduceMul, reduceIte, reduceCtorEq, g0, g1, e1, e2, e3, hc, m2, m4, e4, e5, e6, hx, hy] <;> rfl)))); refine sk_id ?_))))
              exact sk_ret ⟨_, (by first | (simp only [aRet, Tryd.results49, aResults, aResult, go_sem, Nat.reduceLT, Nat.reduceLeDiff, Nat.reduceEqDiff, Nat.reduceAdd, Nat.reduceSub, Nat.reduceMul, reduceIte, reduceCtorEq] <;> rfl) | fail), rfl, fun b x h => keep _ _ b x h, by exact ⟨rfl, by trivial⟩⟩
          · have e6 : decide ((n : Int) ≥ d.length) = true := by simp; omega
            rw [if_neg (by rw [List.getElem?_eq_none (by omega)]; simp)]
            repeat (first
              | refine sk_seq ?_
              | refine sk_region ?_
              | refine sk_ops_nil ?_
              | refine sk_draw_nil ?_
              | refine sk_block ?_
              | refine sk_blk ?_
              | refine sk_skip ?_
              | refine sk_exit rfl ?_
              | refine sk_draw (id := 6) [0, 1, 2, 3, 4, 5, 6, 7] mixed (by kernel_rfl) ?_
              | refine sk_draw (id := 13) [0, 1, 2, 3, 4, 5, 6, 7, 8] mixed (by kernel_rfl) ?_
              | refine sk_draw (id := 18) [0, 1, 2, 3, 4, 5, 6, 7, 8, 9] mixed (by kernel_rfl) ?_
              | ((first | (apply sk_r; rfl; rfl) | (apply sk_w; rfl; rfl) | (apply sk_i; rfl) | (apply sk_g; rfl; rfl) | (apply sk_dr; rfl; rfl; rfl) | (apply sk_dg; rfl; rfl; rfl; rfl; rfl) | apply drd_i | (apply sk_dnr (i := 5) (fl := [4, 3, 2, 1]); rfl; rfl; decide +kernel; rfl; rfl) | (apply sk_dnw (i := 5) (fl := [4, 3, 2, 1]); rfl; rfl; decide +kernel; rfl; rfl) | (apply sk_dnr (i := 6) (fl := []); rfl; rfl; decide +kernel; rfl; rfl) | (apply sk_dnw (i := 6) (fl := []); rfl; rfl; decide +kernel; rfl; rfl) | (apply sk_dnr (i := 7) (fl := []); rfl; rfl; decide +kernel; rfl; rfl) | (apply sk_dnw (i := 7) (fl := []); rfl; rfl; decide +kernel; rfl; rfl) | (apply sk_dnr (i := 6) (fl := [5, 4, 3, 2]); rfl; rfl; decide +kernel; rfl; rfl) | (apply sk_dnw (i := 6) (fl := [5, 4, 3, 2]); rfl; rfl; decide +kernel; rfl; rfl) | (apply sk_dnr (i := 7) (fl := []); rfl; rfl; decide +kernel; rfl; rfl) | (apply sk_dnw (i := 7) (fl := []); rfl; rfl; decide +kernel; rfl; rfl) | (apply sk_dnr (i := 8) (fl := []); rfl; rfl; decide +kernel; rfl; rfl) | (apply sk_dnw (i := 8) (fl := []); rfl; rfl; decide +kernel; rfl; rfl) | (apply sk_dnr (i := 7) (fl := [6, 5, 4, 3]); rfl; rfl; decide +kernel; rfl; rfl) | (apply sk_dnw (i := 7) (fl := [6, 5, 4, 3]); rfl; rfl; decide +kernel; rfl; rfl) | (apply sk_dnr (i := 8) (fl := []); rfl; rfl; decide +kernel; rfl; rfl) | (apply sk_dnw (i := 8) (fl := []); rfl; rfl; decide +kernel; rfl; rfl) | (apply sk_dnr (i := 9) (fl := []); rfl; rfl; decide +kernel; rfl; rfl) | (apply sk_dnw (i := 9) (fl := []); rfl; rfl; decide +kernel; rfl; rfl)); (simp only [go_sem, Nat.reduceLT, Nat.reduceLeDiff, Nat.reduceEqDiff, Nat.reduceAdd, Nat.reduceSub, Nat.reduceMul, reduceIte, reduceCtorEq, g0, g1, e1, e2, e3, hc, m2, m4, e4, e6, hx] <;> rfl); (first | refine sk_id ?_ | refine cs_t ?_ | refine cs_f ?_ | refine gs_t rfl ?_ | refine gs_f rfl ?_ | ((repeat (first | exact trivial | ((first | (apply redos_r; rfl; rfl) | (apply redos_g; rfl; rfl; rfl; rfl)); (simp only [go_sem, Nat.reduceLT, Nat.reduceLeDiff, Nat.reduceEqDiff, Nat.reduceAdd, Nat.reduceSub, Nat.reduceMul, reduceIte, reduceCtorEq, g0, g1, e1, e2, e3, hc, m2, m4, e4, e6, hx] <;> rfl)) | (apply redos_s; rfl; rfl; rfl; (simp only [go_sem, Nat.reduceLT, Nat.reduceLeDiff, Nat.reduceEqDiff, Nat.reduceAdd, Nat.reduceSub, Nat.reduceMul, reduceIte, reduceCtorEq, g0, g1, e1, e2, e3, hc, m2, m4, e4, e6, hx] <;> rfl)))); refine sk_id ?_)))
              | ((first | (apply sk_c; rfl; rfl)); (simp only [go_sem, Nat.reduceLT, Nat.reduceLeDiff, Nat.reduceEqDiff, Nat.reduceAdd, Nat.reduceSub, Nat.reduceMul, reduceIte, reduceCtorEq, g0, g1, e1, e2, e3, hc, m2, m4, e4, e6, hx] <;> rfl); (first
                  | (refine s6.mono ?_; rintro _ _ ⟨rfl, rfl⟩)
                  | (refine s8.mono ?_; rintro _ _ ⟨rfl, rfl⟩)
                  | (refine (f68_tr _ _ d k1 _ _ _ (get_put_same _ _ _)).mono ?_; rintro _ _ ⟨rfl, rfl⟩)
                  | (refine (f68_tr _ _ d n _ _ _ (get_put_same _ _ _)).mono ?_; rintro _ _ ⟨rfl, rfl⟩)
                  | (refine (f68_tr _ _ d k2 _ _ _ (get_put_same _ _ _)).mono ?_; rintro _ _ ⟨rfl, rfl⟩)
                  | (refine (f33_tr _ hx8 _).mono ?_; rintro _ _ ⟨rfl, rfl⟩)
                  | (refine (s6b _ (get_put_same _ _ _)).mono ?_; rintro _ _ ⟨rfl, rfl⟩)); (first | refine sk_id ?_ | (refine ⟨?_, ?_⟩; (repeat (first | exact trivial | ((first | (apply redos_r; rfl; rfl) | (apply redos_g; rfl; rfl; rfl; rfl)); (simp only [go_sem, Nat.reduceLT, Nat.reduceLeDiff, Nat.reduceEqDiff, Nat.reduceAdd, Nat.reduceSub, Nat.reduceMul, reduceIte, reduceCtorEq, g0, g1, e1, e2, e3, hc, m2, m4, e4, e6, hx] <;> rfl)) | (apply redos_s; rfl; rfl; rfl; (simp only [go_sem, Nat.reduceLT, Nat.reduceLeDiff, Nat.reduceEqDiff, Nat.reduceAdd, Nat.reduceSub, Nat.reduceMul, reduceIte, reduceCtorEq, g0, g1, e1, e2, e3, hc, m2, m4, e4, e6, hx] <;> rfl)))); refine sk_id ?_))))
            exact sk_ret ⟨_, (by first | (simp only [aRet, Tryd.results49, aResults, aResult, go_sem, Nat.reduceLT, Nat.reduceLeDiff, Nat.reduceEqDiff, Nat.reduceAdd, Nat.reduceSub, Nat.reduceMul, reduceIte, reduceCtorEq] <;> rfl) | fail), rfl, fun b x h => keep _ _ b x h, by exact ⟨rfl, by trivial⟩⟩
        · have e4 : decide (idx [9, 10, 12, 13, 32] x ≥ 0) = true := hbl
          generalize blankEnd d n = k2 at *
          have m4 : (0 : Int) ≤ (k2 : Int) := by omega
          by_cases h2 : k2 < d.length
          · obtain ⟨y, hy⟩ := at_some h2
            have hy8 := hd y (at_mem hy)
            have e6 : decide ((k2 : Int) ≥ d.length) = false := by simp; omega
            by_cases h61 : y = 61
            · have e5 : ((y : Int) != 61) = false := by simp; omega
              have e7 : IntKind.wrap .i64 ((k2 : Int) + 1) = ((k2 + 1 : Nat) : Int) := wrap_i64 (by omega) (by omega)
              rw [if_pos (by rw [hy, h61])]
              repeat (first
                | refine sk_seq ?_
                | refine sk_region ?_
                | refine sk_ops_nil ?_
                | refine sk_draw_nil ?_
                | refine sk_block ?_
                | refine sk_blk ?_
                | refine sk_skip ?_
                | refine sk_exit rfl ?_
                | refine sk_draw (id := 6) [0, 1, 2, 3, 4, 5, 6, 7] mixed (by kernel_rfl) ?_
                | refine sk_draw (id := 13) [0, 1, 2, 3, 4, 5, 6, 7, 8] mixed (by kernel_rfl) ?_
                | refine sk_draw (id := 18) [0, 1, 2, 3, 4, 5, 6, 7, 8, 9] mixed (by kernel_rfl) ?_
                | ((first | (apply sk_r; rfl; rfl) | (apply sk_w; rfl; rfl) | (apply sk_i; rfl) | (apply sk_g; rfl; rfl) | (apply sk_dr; rfl; rfl; rfl) | (apply sk_dg; rfl; rfl; rfl; rfl; rfl) | apply drd_i | (apply sk_dnr (i := 5) (fl := [4, 3, 2, 1]); rfl; rfl; decide +kernel; rfl; rfl) | (apply sk_dnw (i := 5) (fl := [4, 3, 2, 1]); rfl; rfl; decide +kernel; rfl; rfl) | (apply sk_dnr (i := 6) (fl := []); rfl; rfl; decide +kernel; rfl; rfl) | (apply sk_dnw (i := 6) (fl := []); rfl; rfl; decide +kernel; rfl; rfl) | (apply sk_dnr (i := 7) (fl := []); rfl; rfl; decide +kernel; rfl; rfl) | (apply sk_dnw (i := 7) (fl := []); rfl; rfl; decide +kernel; rfl; rfl) | (apply sk_dnr (i := 6) (fl := [5, 4, 3, 2]); rfl; rfl; decide +kernel; rfl; rfl) | (apply sk_dnw (i := 6) (fl := [5, 4, 3, 2]); rfl; rfl; decide +kernel; rfl; rfl) | (apply sk_dnr (i := 7) (fl := []); rfl; rfl; decide +kernel; rfl; rfl) | (apply sk_dnw (i := 7) (fl := []); rfl; rfl; decide +kernel; rfl; rfl) | (apply sk_dnr (i := 8) (fl := []); rfl; rfl; decide +kernel; rfl; rfl) | (apply sk_dnw (i := 8) (fl := []); rfl; rfl; decide +kernel; rfl; rfl) | (apply sk_dnr (i := 7) (fl := [6, 5, 4, 3]); rfl; rfl; decide +kernel; rfl; rfl) | (apply sk_dnw (i := 7) (fl := [6, 5, 4, 3]); rfl; rfl; decide +kernel; rfl; rfl) | (apply sk_dnr (i := 8) (fl := []); rfl; rfl; decide +kernel; rfl; rfl) | (apply sk_dnw (i := 8) (fl := []); rfl; rfl; decide +kernel; rfl; rfl) | (apply sk_dnr (i := 9) (fl := []); rfl; rfl; decide +kernel; rfl; rfl) | (apply sk_dnw (i := 9) (fl := []); rfl; rfl; decide +kernel; rfl; rfl)); (simp only [go_sem, Nat.reduceLT, Nat.reduceLeDiff, Nat.reduceEqDiff, Nat.reduceAdd, Nat.reduceSub, Nat.reduceMul, reduceIte, reduceCtorEq, g0, g1, e1, e2, e3, hc, m2, m4, e4, e5, e6, e7, hx, hy] <;> rfl); (first | refine sk_id ?_ | refine cs_t ?_ | refine cs_f ?_ | refine gs_t rfl ?_ | refine gs_f rfl ?_ | ((repeat (first | exact trivial | ((first | (apply redos_r; rfl; rfl) | (apply redos_g; rfl; rfl; rfl; rfl)); (simp only [go_sem, Nat.reduceLT, Nat.reduceLeDiff, Nat.reduceEqDiff, Nat.reduceAdd, Nat.reduceSub, Nat.reduceMul, reduceIte, reduceCtorEq, g0, g1, e1, e2, e3, hc, m2, m4, e4, e5, e6, e7, hx, hy] <;> rfl)) | (apply redos_s; rfl; rfl; rfl; (simp only [go_sem, Nat.reduceLT, Nat.reduceLeDiff, Nat.reduceEqDiff, Nat.reduceAdd, Nat.reduceSub, Nat.reduceMul, reduceIte, reduceCtorEq, g0, g1, e1, e2, e3, hc, m2, m4, e4, e5, e6, e7, hx, hy] <;> rfl)))); refine sk_id ?_)))
                | ((first | (apply sk_c; rfl; rfl)); (simp only [go_sem, Nat.reduceLT, Nat.reduceLeDiff, Nat.reduceEqDiff, Nat.reduceAdd, Nat.reduceSub, Nat.reduceMul, reduceIte, reduceCtorEq, g0, g1, e1, e2, e3, hc, m2, m4, e4, e5, e6, e7, hx, hy] <;> rfl); (first
                    | (refine s6.mono ?_; rintro _ _ ⟨rfl, rfl⟩)
                    | (refine s8.mono ?_; rintro _ _ ⟨rfl, rfl⟩)
                    | (refine (f68_tr _ _ d k1 _ _ _ (get_put_same _ _ _)).mono ?_; rintro _ _ ⟨rfl, rfl⟩)
                    | (refine (f68_tr _ _ d n _ _ _ (get_put_same _ _ _)).mono ?_; rintro _ _ ⟨rfl, rfl⟩)
                    | (refine (f68_tr _ _ d k2 _ _ _ (get_put_same _ _ _)).mono ?_; rintro _ _ ⟨rfl, rfl⟩)
                    | (refine (f33_tr _ hx8 _).mono ?_; rintro _ _ ⟨rfl, rfl⟩)
                    | (refine (s6b _ (get_put_same _ _ _)).mono ?_; rintro _ _ ⟨rfl, rfl⟩)); (first | refine sk_id ?_ | (refine ⟨?_, ?_⟩; (repeat (first | exact trivial | ((first | (apply redos_r; rfl; rfl) | (apply redos_g; rfl; rfl; rfl; rfl)); (simp only [go_sem, Nat.reduceLT, Nat.reduceLeDiff, Nat.reduceEqDiff, Nat.reduceAdd, Nat.reduceSub, Nat.reduceMul, reduceIte, reduceCtorEq, g0, g1, e1, e2, e3, hc, m2, m4, e4, e5, e6, e7, hx, hy] <;> rfl)) | (apply redos_s; rfl; rfl; rfl; (simp only [go_sem, Nat.reduceLT, Nat.reduceLeDiff, Nat.reduceEqDiff, Nat.reduceAdd, Nat.reduceSub, Nat.reduceMul, reduceIte, reduceCtorEq, g0, g1, e1, e2, e3, hc, m2, m4, e4, e5, e6, e7, hx, hy] <;> rfl)))); refine sk_id ?_))))
              refine sk_call rfl (by first | (simp only [go_sem, Nat.reduceLT, Nat.reduceLeDiff, Nat.reduceEqDiff, Nat.reduceAdd, Nat.reduceSub, Nat.reduceMul, reduceIte, reduceCtorEq] <;> rfl) | fail) ?_
              refine (f70_tr (σ.next + 1) (k2 + 1) d hd (by omega) hl _ (get_put_same _ _ _)).mono ?_
              rintro v σ2 ⟨p1, p2, p3⟩
              have q0 := p3 σ.next _ (by omega) (g0 _)
              have keep2 : ∀ A b x, σ.m.get b = some x → (σ2.put σ.next A []).m.get b = some x := fun A b x h => by
                have := wf_lt hW h
                rw [get_put, if_neg (by omega)]
                exact p3 b x (by omega) (by rw [get_put, if_neg (by omega)]; exact hkeep b x h)
              cases hv : valueAt d (blankEnd d (k2 + 1)) with
              | none =>
                obtain rfl := p2 hv
                repeat (first
                  | refine sk_seq ?_
                  | refine sk_region ?_
                  | refine sk_ops_nil ?_
                  | refine sk_draw_nil ?_
                  | refine sk_block ?_
                  | refine sk_blk ?_
                  | refine sk_skip ?_
                  | refine sk_exit rfl ?_
                  | refine sk_draw (id := 6) [0, 1, 2, 3, 4, 5, 6, 7] mixed (by kernel_rfl) ?_
                  | refine sk_draw (id := 13) [0, 1, 2, 3, 4, 5, 6, 7, 8] mixed (by kernel_rfl) ?_
                  | refine sk_draw (id := 18) [0, 1, 2, 3, 4, 5, 6, 7, 8, 9] mixed (by kernel_rfl) ?_
                  | ((first | (apply sk_r; rfl; rfl) | (apply sk_w; rfl; rfl) | (apply sk_i; rfl) | (apply sk_g; rfl; rfl) | (apply sk_dr; rfl; rfl; rfl) | (apply sk_dg; rfl; rfl; rfl; rfl; rfl) | apply drd_i | (apply sk_dnr (i := 5) (fl := [4, 3, 2, 1]); rfl; rfl; decide +kernel; rfl; rfl) | (apply sk_dnw (i := 5) (fl := [4, 3, 2, 1]); rfl; rfl; decide +kernel; rfl; rfl) | (apply sk_dnr (i := 6) (fl := []); rfl; rfl; decide +kernel; rfl; rfl) | (apply sk_dnw (i := 6) (fl := []); rfl; rfl; decide +kernel; rfl; rfl) | (apply sk_dnr (i := 7) (fl := []); rfl; rfl; decide +kernel; rfl; rfl) | (apply sk_dnw (i := 7) (fl := []); rfl; rfl; decide +kernel; rfl; rfl) | (apply sk_dnr (i := 6) (fl := [5, 4, 3, 2]); rfl; rfl; decide +kernel; rfl; rfl) | (apply sk_dnw (i := 6) (fl := [5, 4, 3, 2]); rfl; rfl; decide +kernel; rfl; rfl) | (apply sk_dnr (i := 7) (fl := []); rfl; rfl; decide +kernel; rfl; rfl) | (apply sk_dnw (i := 7) (fl := []); rfl; rfl; decide +kernel; rfl; rfl) | (apply sk_dnr (i := 8) (fl := []); rfl; rfl; decide +kernel; rfl; rfl) | (apply sk_dnw (i := 8) (fl := []); rfl; rfl; decide +kernel; rfl; rfl) | (apply sk_dnr (i := 7) (fl := [6, 5, 4, 3]); rfl; rfl; decide +kernel; rfl; rfl) | (apply sk_dnw (i := 7) (fl := [6, 5, 4, 3]); rfl; rfl; decide +kernel; rfl; rfl) | (apply sk_dnr (i := 8) (fl := []); rfl; rfl; decide +kernel; rfl; rfl) | (apply sk_dnw (i := 8) (fl := []); rfl; rfl; decide +kernel; rfl; rfl) | (apply sk_dnr (i := 9) (fl := []); rfl; rfl; decide +kernel; rfl; rfl) | (apply sk_dnw (i := 9) (fl := []); rfl; rfl; decide +kernel; rfl; rfl)); (simp only [go_sem, Nat.reduceLT, Nat.reduceLeDiff, Nat.reduceEqDiff, Nat.reduceAdd, Nat.reduceSub, Nat.reduceMul, reduceIte, reduceCtorEq, q0] <;> rfl); (first | refine sk_id ?_ | refine cs_t ?_ | refine cs_f ?_ | refine gs_t rfl ?_ | refine gs_f rfl ?_ | ((repeat (first | exact trivial | ((first | (apply redos_r; rfl; rfl) | (apply redos_g; rfl; rfl; rfl; rfl)); (simp only [go_sem, Nat.reduceLT, Nat.reduceLeDiff, Nat.reduceEqDiff, Nat.reduceAdd, Nat.reduceSub, Nat.reduceMul, reduceIte, reduceCtorEq, q0] <;> rfl)) | (apply redos_s; rfl; rfl; rfl; (simp only [go_sem, Nat.reduceLT, Nat.reduceLeDiff, Nat.reduceEqDiff, Nat.reduceAdd, Nat.reduceSub, Nat.reduceMul, reduceIte, reduceCtorEq, q0] <;> rfl)))); refine sk_id ?_))))
                exact sk_ret ⟨_, (by first | (simp only [aRet, Tryd.results49, aResults, aResult, go_sem, Nat.reduceLT, Nat.reduceLeDiff, Nat.reduceEqDiff, Nat.reduceAdd, Nat.reduceSub, Nat.reduceMul, reduceIte, reduceCtorEq] <;> rfl) | fail), rfl, fun b x h => keep2 _ b x h, by exact ⟨rfl, by trivial⟩⟩
              | some r =>
                obtain ⟨s, e⟩ := r
                obtain ⟨rfl, q1⟩ := p1 s e hv
                have q3 : ∀ A, (σ2.put σ.next A []).m.get (σ.next + 1) = some (rdr d e) := fun A => by rw [get_put, if_neg (by omega)]; exact q1
                repeat (first
                  | refine sk_seq ?_
                  | refine sk_region ?_
                  | refine sk_ops_nil ?_
                  | refine sk_draw_nil ?_
                  | refine sk_block ?_
                  | refine sk_blk ?_
                  | refine sk_skip ?_
                  | refine sk_exit rfl ?_
                  | refine sk_draw (id := 6) [0, 1, 2, 3, 4, 5, 6, 7] mixed (by kernel_rfl) ?_
                  | refine sk_draw (id := 13) [0, 1, 2, 3, 4, 5, 6, 7, 8] mixed (by kernel_rfl) ?_
                  | refine sk_draw (id := 18) [0, 1, 2, 3, 4, 5, 6, 7, 8, 9] mixed (by kernel_rfl) ?_
                  | ((first | (apply sk_r; rfl; rfl) | (apply sk_w; rfl; rfl) | (apply sk_i; rfl) | (apply sk_g; rfl; rfl) | (apply sk_dr; rfl; rfl; rfl) | (apply sk_dg; rfl; rfl; rfl; rfl; rfl) | apply drd_i | (apply sk_dnr (i := 5) (fl := [4, 3, 2, 1]); rfl; rfl; decide +kernel; rfl; rfl) | (apply sk_dnw (i := 5) (fl := [4, 3, 2, 1]); rfl; rfl; decide +kernel; rfl; rfl) | (apply sk_dnr (i := 6) (fl := []); rfl; rfl; decide +kernel; rfl; rfl) | (apply sk_dnw (i := 6) (fl := []); rfl; rfl; decide +kernel; rfl; rfl) | (apply sk_dnr (i := 7) (fl := []); rfl; rfl; decide +kernel; rfl; rfl) | (apply sk_dnw (i := 7) (fl := []); rfl; rfl; decide +kernel; rfl; rfl) | (apply sk_dnr (i := 6) (fl := [5, 4, 3, 2]); rfl; rfl; decide +kernel; rfl; rfl) | (apply sk_dnw (i := 6) (fl := [5, 4, 3, 2]); rfl; rfl; decide +kernel; rfl; rfl) | (apply sk_dnr (i := 7) (fl := []); rfl; rfl; decide +kernel; rfl; rfl) | (apply sk_dnw (i := 7) (fl := []); rfl; rfl; decide +kernel; rfl; rfl) | (apply sk_dnr (i := 8) (fl := []); rfl; rfl; decide +kernel; rfl; rfl) | (apply sk_dnw (i := 8) (fl := []); rfl; rfl; decide +kernel; rfl; rfl) | (apply sk_dnr (i := 7) (fl := [6, 5, 4, 3]); rfl; rfl; decide +kernel; rfl; rfl) | (apply sk_dnw (i := 7) (fl := [6, 5, 4, 3]); rfl; rfl; decide +kernel; rfl; rfl) | (apply sk_dnr (i := 8) (fl := []); rfl; rfl; decide +kernel; rfl; rfl) | (apply sk_dnw (i := 8) (fl := []); rfl; rfl; decide +kernel; rfl; rfl) | (apply sk_dnr (i := 9) (fl := []); rfl; rfl; decide +kernel; rfl; rfl) | (apply sk_dnw (i := 9) (fl := []); rfl; rfl; decide +kernel; rfl; rfl)); (simp only [go_sem, Nat.reduceLT, Nat.reduceLeDiff, Nat.reduceEqDiff, Nat.reduceAdd, Nat.reduceSub, Nat.reduceMul, reduceIte, reduceCtorEq, q0, q1, q3] <;> rfl); (first | refine sk_id ?_ | refine cs_t ?_ | refine cs_f ?_ | refine gs_t rfl ?_ | refine gs_f rfl ?_ | ((repeat (first | exact trivial | ((first | (apply redos_r; rfl; rfl) | (apply redos_g; rfl; rfl; rfl; rfl)); (simp only [go_sem, Nat.reduceLT, Nat.reduceLeDiff, Nat.reduceEqDiff, Nat.reduceAdd, Nat.reduceSub, Nat.reduceMul, reduceIte, reduceCtorEq, q0, q1, q3] <;> rfl)) | (apply redos_s; rfl; rfl; rfl; (simp only [go_sem, Nat.reduceLT, Nat.reduceLeDiff, Nat.reduceEqDiff, Nat.reduceAdd, Nat.reduceSub, Nat.reduceMul, reduceIte, reduceCtorEq, q0, q1, q3] <;> rfl)))); refine sk_id ?_))))
                exact sk_ret ⟨_, (by first | (simp only [aRet, Tryd.results49, aResults, aResult, go_sem, Nat.reduceLT, Nat.reduceLeDiff, Nat.reduceEqDiff, Nat.reduceAdd, Nat.reduceSub, Nat.reduceMul, reduceIte, reduceCtorEq] <;> rfl) | fail), rfl, fun b x h => keep2 _ b x h, by exact ⟨rfl, by trivial⟩⟩
            · have e5 : ((y : Int) != 61) = true := by simp; omega
              rw [if_neg (by rw [hy]; simp; omega)]
              repeat (first
                | refine sk_seq ?_
                | refine sk_region ?_
                | refine sk_ops_nil ?_
                | refine sk_draw_nil ?_
                | refine sk_block ?_
                | refine sk_blk ?_
                | refine sk_skip ?_
                | refine sk_exit rfl ?_
                | refine sk_draw (id := 6) [0, 1, 2, 3, 4, 5, 6, 7] mixed (by kernel_rfl) ?_
                | refine sk_draw (id := 13) [0, 1, 2, 3, 4, 5, 6, 7, 8] mixed (by kernel_rfl) ?_
                | refine sk_draw (id := 18) [0, 1, 2, 3, 4, 5, 6, 7, 8, 9] mixed (by kernel_rfl) ?_
                | ((first | (apply sk_r; rfl; rfl) | (apply sk_w; rfl; rfl) | (apply sk_i; rfl) | (apply sk_g; rfl; rfl) | (apply sk_dr; rfl; rfl; rfl) | (apply sk_dg; rfl; rfl; rfl; rfl; rfl) | apply drd_i | (apply sk_dnr (i := 5) (fl := [4, 3, 2, 1]); rfl; rfl; decide +kernel; rfl; rfl) | (apply sk_dnw (i := 5) (fl := [4, 3, 2, 1]); rfl; rfl; decide +kernel; rfl; rfl) | (apply sk_dnr (i := 6) (fl := []); rfl; rfl; decide +kernel; rfl; rfl) | (apply sk_dnw (i := 6) (fl := []); rfl; rfl; decide +kernel; rfl; rfl) | (apply sk_dnr (i := 7) (fl := []); rfl; rfl; decide +kernel; rfl; rfl) | (apply sk_dnw (i := 7) (fl := []); rfl; rfl; decide +kernel; rfl; rfl) | (apply sk_dnr (i := 6) (fl := [5, 4, 3, 2]); rfl; rfl; decide +kernel; rfl; rfl) | (apply sk_dnw (i := 6) (fl := [5, 4, 3, 2]); rfl; rfl; decide +kernel; rfl; rfl) | (apply sk_dnr (i := 7) (fl := []); rfl; rfl; decide +kernel; rfl; rfl) | (apply sk_dnw (i := 7) (fl := []); rfl; rfl; decide +kernel; rfl; rfl) | (apply sk_dnr (i := 8) (fl := []); rfl; rfl; decide +kernel; rfl; rfl) | (apply sk_dnw (i := 8) (fl := []); rfl; rfl; decide +kernel; rfl; rfl) | (apply sk_dnr (i := 7) (fl := [6, 5, 4, 3]); rfl; rfl; decide +kernel; rfl; rfl) | (apply sk_dnw (i := 7) (fl := [6, 5, 4, 3]); rfl; rfl; decide +kernel; rfl; rfl) | (apply sk_dnr (i := 8) (fl := []); rfl; rfl; decide +kernel; rfl; rfl) | (apply sk_dnw (i := 8) (fl := []); rfl; rfl; decide +kernel; rfl; rfl) | (apply sk_dnr (i := 9) (fl := []); rfl; rfl; decide +kernel; rfl; rfl) | (apply sk_dnw (i := 9) (fl := []); rfl; rfl; decide +kernel; rfl; rfl)); (simp only [go_sem, Nat.reduceLT, Nat.reduceLeDiff, Nat.reduceEqDiff, Nat.reduceAdd, Nat.reduceSub, Nat.reduceMul, reduceIte, reduceCtorEq, g0, g1, e1, e2, e3, hc, m2, m4, e4, e5, e6, hx, hy] <;> rfl); (first | refine sk_id ?_ | refine cs_t ?_ | refine cs_f ?_ | refine gs_t rfl ?_ | refine gs_f rfl ?_ | ((repeat (first | exact trivial | ((first | (apply redos_r; rfl; rfl) | (apply redos_g; rfl; rfl; rfl; rfl)); (simp only [go_sem, Nat.reduceLT, Nat.reduceLeDiff, Nat.reduceEqDiff, Nat.reduceAdd, Nat.reduceSub, Nat.reduceMul, reduceIte, reduceCtorEq, g0, g1, e1, e2, e3, hc, m2, m4, e4, e5, e6, hx, hy] <;> rfl)) | (apply redos_s; rfl; rfl; rfl; (simp only [go_sem, Nat.reduceLT, Nat.reduceLeDiff, Nat.reduceEqDiff, Nat.reduceAdd, Nat.reduceSub, Nat.reduceMul, reduceIte, reduceCtorEq, g0, g1, e1, e2, e3, hc, m2, m4, e4, e5, e6, hx, hy] <;> rfl)))); refine sk_id ?_)))
                | ((first | (apply sk_c; rfl; rfl)); (simp only [go_sem, Nat.reduceLT, Nat.reduceLeDiff, Nat.reduceEqDiff, Nat.reduceAdd, Nat.reduceSub, Nat.reduceMul, reduceIte, reduceCtorEq, g0, g1, e1, e2, e3, hc, m2, m4, e4, e5, e6, hx, hy] <;> rfl); (first
                    | (refine s6.mono ?_; rintro _ _ ⟨rfl, rfl⟩)
                    | (refine s8.mono ?_; rintro _ _ ⟨rfl, rfl⟩)
                    | (refine (f68_tr _ _ d k1 _ _ _ (get_put_same _ _ _)).mono ?_; rintro _ _ ⟨rfl, rfl⟩)
                    | (refine (f68_tr _ _ d n _ _ _ (get_put_same _ _ _)).mono ?_; rintro _ _ ⟨rfl, rfl⟩)
                    | (refine (f68_tr _ _ d k2 _ _ _ (get_put_same _ _ _)).mono ?_; rintro _ _ ⟨rfl, rfl⟩)
                    | (refine (f33_tr _ hx8 _).mono ?_; rintro _ _ ⟨rfl, rfl⟩)
                    | (refine (s6b _ (get_put_same _ _ _)).mono ?_; rintro _ _ ⟨rfl, rfl⟩)); (first | refine sk_id ?_ | (refine ⟨?_, ?_⟩; (repeat (first | exact trivial | ((first | (apply redos_r; rfl; rfl) | (apply redos_g; rfl; rfl; rfl; rfl)); (simp only [go_sem, Nat.reduceLT, Nat.reduceLeDiff, Nat.reduceEqDiff, Nat.reduceAdd, Nat.reduceSub, Nat.reduceMul, reduceIte, reduceCtorEq, g0, g1, e1, e2, e3, hc, m2, m4, e4, e5, e6, hx, hy] <;> rfl)) | (apply redos_s; rfl; rfl; rfl; (simp only [go_sem, Nat.reduceLT, Nat.reduceLeDiff, Nat.reduceEqDiff, Nat.reduceAdd, Nat.reduceSub, Nat.reduceMul, reduceIte, reduceCtorEq, g0, g1, e1, e2, e3, hc, m2, m4, e4, e5, e6, hx, hy] <;> rfl)))); refine sk_id ?_))))
              exact sk_ret ⟨_, (by first | (simp only [aRet, Tryd.results49, aResults, aResult, go_sem, Nat.reduceLT, Nat.reduceLeDiff, Nat.reduceEqDiff, Nat.reduceAdd, Nat.reduceSub, Nat.reduceMul, reduceIte, reduceCtorEq] <;> rfl) | fail), rfl, fun b x h => keep _ _ b x h, by exact ⟨rfl, by trivial⟩⟩
          · have e6 : decide ((k2 : Int) ≥ d.length) = true := by simp; omega
            rw [if_neg (by rw [List.getElem?_eq_none (by omega)]; simp)]
            repeat (first
              | refine sk_seq ?_
              | refine sk_region ?_
              | refine sk_ops_nil ?_
              | refine sk_draw_nil ?_
              | refine sk_block ?_
              | refine sk_blk ?_
              | refine sk_skip ?_
              | refine sk_exit rfl ?_
              | refine sk_draw (id := 6) [0, 1, 2, 3, 4, 5, 6, 7] mixed (by kernel_rfl) ?_
              | refine sk_draw (id := 13) [0, 1, 2, 3, 4, 5, 6, 7, 8] mixed (by kernel_rfl) ?_
              | refine sk_draw (id := 18) [0, 1, 2, 3, 4, 5, 6, 7, 8, 9] mixed (by kernel_rfl) ?_
              | ((first | (apply sk_r; rfl; rfl) | (apply sk_w; rfl; rfl) | (apply sk_i; rfl) | (apply sk_g; rfl; rfl) | (apply sk_dr; rfl; rfl; rfl) | (apply sk_dg; rfl; rfl; rfl; rfl; rfl) | apply drd_i | (apply sk_dnr (i := 5) (fl := [4, 3, 2, 1]); rfl; rfl; decide +kernel; rfl; rfl) | (apply sk_dnw (i := 5) (fl := [4, 3, 2, 1]); rfl; rfl; decide +kernel; rfl; rfl) | (apply sk_dnr (i := 6) (fl := []); rfl; rfl; decide +kernel; rfl; rfl) | (apply sk_dnw (i := 6) (fl := []); rfl; rfl; decide +kernel; rfl; rfl) | (apply sk_dnr (i := 7) (fl := []); rfl; rfl; decide +kernel; rfl; rfl) | (apply sk_dnw (i := 7) (fl := []); rfl; rfl; decide +kernel; rfl; rfl) | (apply sk_dnr (i := 6) (fl := [5, 4, 3, 2]); rfl; rfl; decide +kernel; rfl; rfl) | (apply sk_dnw (i := 6) (fl := [5, 4, 3, 2]); rfl; rfl; decide +kernel; rfl; rfl) | (apply sk_dnr (i := 7) (fl := []); rfl; rfl; decide +kernel; rfl; rfl) | (apply sk_dnw (i := 7) (fl := []); rfl; rfl; decide +kernel; rfl; rfl) | (apply sk_dnr (i := 8) (fl := []); rfl; rfl; decide +kernel; rfl; rfl) | (apply sk_dnw (i := 8) (fl := []); rfl; rfl; decide +kernel; rfl; rfl) | (apply sk_dnr (i := 7) (fl := [6, 5, 4, 3]); rfl; rfl; decide +kernel; rfl; rfl) | (apply sk_dnw (i := 7) (fl := [6, 5, 4, 3]); rfl; rfl; decide +kernel; rfl; rfl) | (apply sk_dnr (i := 8) (fl := []); rfl; rfl; decide +kernel; rfl; rfl) | (apply sk_dnw (i := 8) (fl := []); rfl; rfl; decide +kernel; rfl; rfl) | (apply sk_dnr (i := 9) (fl := []); rfl; rfl; decide +kernel; rfl; rfl) | (apply sk_dnw (i := 9) (fl := []); rfl; rfl; decide +kernel; rfl; rfl)); (simp only [go_sem, Nat.reduceLT, Nat.reduceLeDiff, Nat.reduceEqDiff, Nat.reduceAdd, Nat.reduceSub, Nat.reduceMul, reduceIte, reduceCtorEq, g0, g1, e1, e2, e3, hc, m2, m4, e4, e6, hx] <;> rfl); (first | refine sk_id ?_ | refine cs_t ?_ | refine cs_f ?_ | refine gs_t rfl ?_ | refine gs_f rfl ?_ | ((repeat (first | exact trivial | ((first | (apply redos_r; rfl; rfl) | (apply redos_g; rfl; rfl; rfl; rfl)); (simp only [go_sem, Nat.reduceLT, Nat.reduceLeDiff, Nat.reduceEqDiff, Nat.reduceAdd, Nat.reduceSub, Nat.reduceMul, reduceIte, reduceCtorEq, g0, g1, e1, e2, e3, hc, m2, m4, e4, e6, hx] <;> rfl)) | (apply redos_s; rfl; rfl; rfl; (simp only [go_sem, Nat.reduceLT, Nat.reduceLeDiff, Nat.reduceEqDiff, Nat.reduceAdd, Nat.reduceSub, Nat.reduceMul, reduceIte, reduceCtorEq, g0, g1, e1, e2, e3, hc, m2, m4, e4, e6, hx] <;> rfl)))); refine sk_id ?_)))
              | ((first | (apply sk_c; rfl; rfl)); (simp only [go_sem, Nat.reduceLT, Nat.reduceLeDiff, Nat.reduceEqDiff, Nat.reduceAdd, Nat.reduceSub, Nat.reduceMul, reduceIte, reduceCtorEq, g0, g1, e1, e2, e3, hc, m2, m4, e4, e6, hx] <;> rfl); (first
                  | (refine s6.mono ?_; rintro _ _ ⟨rfl, rfl⟩)
                  | (refine s8.mono ?_; rintro _ _ ⟨rfl, rfl⟩)
                  | (refine (f68_tr _ _ d k1 _ _ _ (get_put_same _ _ _)).mono ?_; rintro _ _ ⟨rfl, rfl⟩)
                  | (refine (f68_tr _ _ d n _ _ _ (get_put_same _ _ _)).mono ?_; rintro _ _ ⟨rfl, rfl⟩)
                  | (refine (f68_tr _ _ d k2 _ _ _ (get_put_same _ _ _)).mono ?_; rintro _ _ ⟨rfl, rfl⟩)
                  | (refine (f33_tr _ hx8 _).mono ?_; rintro _ _ ⟨rfl, rfl⟩)
                  | (refine (s6b _ (get_put_same _ _ _)).mono ?_; rintro _ _ ⟨rfl, rfl⟩)); (first | refine sk_id ?_ | (refine ⟨?_, ?_⟩; (repeat (first | exact trivial | ((first | (apply redos_r; rfl; rfl) | (apply redos_g; rfl; rfl; rfl; rfl)); (simp only [go_sem, Nat.reduceLT, Nat.reduceLeDiff, Nat.reduceEqDiff, Nat.reduceAdd, Nat.reduceSub, Nat.reduceMul, reduceIte, reduceCtorEq, g0, g1, e1, e2, e3, hc, m2, m4, e4, e6, hx] <;> rfl)) | (apply redos_s; rfl; rfl; rfl; (simp only [go_sem, Nat.reduceLT, Nat.reduceLeDiff, Nat.reduceEqDiff, Nat.reduceAdd, Nat.reduceSub, Nat.reduceMul, reduceIte, reduceCtorEq, g0, g1, e1, e2, e3, hc, m2, m4, e4, e6, hx] <;> rfl)))); refine sk_id ?_))))
            exact sk_ret ⟨_, (by first | (simp only [aRet, Tryd.results49, aResults, aResult, go_sem, Nat.reduceLT, Nat.reduceLeDiff, Nat.reduceEqDiff, Nat.reduceAdd, Nat.reduceSub, Nat.reduceMul, reduceIte, reduceCtorEq] <;> rfl) | fail), rfl, fun b x h => keep _ _ b x h, by exact ⟨rfl, by trivial⟩⟩
      · have s8 := s8.mono fun v σ' h => h.2 (Nat.le_of_not_lt hn)
        rw [List.getElem?_eq_none (by omega)]
        repeat (first
          | refine sk_seq ?_
          | refine sk_region ?_
          | refine sk_ops_nil ?_
          | refine sk_draw_nil ?_
          | refine sk_block ?_
          | refine sk_blk ?_
          | refine sk_skip ?_
          | refine sk_exit rfl ?_
          | refine sk_draw (id := 6) [0, 1, 2, 3, 4, 5, 6, 7] mixed (by kernel_rfl) ?_
          | refine sk_draw (id := 13) [0, 1, 2, 3, 4, 5, 6, 7, 8] mixed (by kernel_rfl) ?_
          | refine sk_draw (id := 18) [0, 1, 2, 3, 4, 5, 6, 7, 8, 9] mixed (by kernel_rfl) ?_
          | ((first | (apply sk_r; rfl; rfl) | (apply sk_w; rfl; rfl) | (apply sk_i; rfl) | (apply sk_g; rfl; rfl) | (apply sk_dr; rfl; rfl; rfl) | (apply sk_dg; rfl; rfl; rfl; rfl; rfl) | apply drd_i | (apply sk_dnr (i := 5) (fl := [4, 3, 2, 1]); rfl; rfl; decide +kernel; rfl; rfl) | (apply sk_dnw (i := 5) (fl := [4, 3, 2, 1]); rfl; rfl; decide +kernel; rfl; rfl) | (apply sk_dnr (i := 6) (fl := []); rfl; rfl; decide +kernel; rfl; rfl) | (apply sk_dnw (i := 6) (fl := []); rfl; rfl; decide +kernel; rfl; rfl) | (apply sk_dnr (i := 7) (fl := []); rfl; rfl; decide +kernel; rfl; rfl) | (apply sk_dnw (i := 7) (fl := []); rfl; rfl; decide +kernel; rfl; rfl) | (apply sk_dnr (i := 6) (fl := [5, 4, 3, 2]); rfl; rfl; decide +kernel; rfl; rfl) | (apply sk_dnw (i := 6) (fl := [5, 4, 3, 2]); rfl; rfl; decide +kernel; rfl; rfl) | (apply sk_dnr (i := 7) (fl := []); rfl; rfl; decide +kernel; rfl; rfl) | (apply sk_dnw (i := 7) (fl := []); rfl; rfl; decide +kernel; rfl; rfl) | (apply sk_dnr (i := 8) (fl := []); rfl; rfl; decide +kernel; rfl; rfl) | (apply sk_dnw (i := 8) (fl := []); rfl; rfl; decide +kernel; rfl; rfl) | (apply sk_dnr (i := 7) (fl := [6, 5, 4, 3]); rfl; rfl; decide +kernel; rfl; rfl) | (apply sk_dnw (i := 7) (fl := [6, 5, 4, 3]); rfl; rfl; decide +kernel; rfl; rfl) | (apply sk_dnr (i := 8) (fl := []); rfl; rfl; decide +kernel; rfl; rfl) | (apply sk_dnw (i := 8) (fl := []); rfl; rfl; decide +kernel; rfl; rfl) | (apply sk_dnr (i := 9) (fl := []); rfl; rfl; decide +kernel; rfl; rfl) | (apply sk_dnw (i := 9) (fl := []); rfl; rfl; decide +kernel; rfl; rfl)); (simp only [go_sem, Nat.reduceLT, Nat.reduceLeDiff, Nat.reduceEqDiff, Nat.reduceAdd, Nat.reduceSub, Nat.reduceMul, reduceIte, reduceCtorEq, g0, g1, e1, e2, e3, hc] <;> rfl); (first | refine sk_id ?_ | refine cs_t ?_ | refine cs_f ?_ | refine gs_t rfl ?_ | refine gs_f rfl ?_ | ((repeat (first | exact trivial | ((first | (apply redos_r; rfl; rfl) | (apply redos_g; rfl; rfl; rfl; rfl)); (simp only [go_sem, Nat.reduceLT, Nat.reduceLeDiff, Nat.reduceEqDiff, Nat.reduceAdd, Nat.reduceSub, Nat.reduceMul, reduceIte, reduceCtorEq, g0, g1, e1, e2, e3, hc] <;> rfl)) | (apply redos_s; rfl; rfl; rfl; (simp only [go_sem, Nat.reduceLT, Nat.reduceLeDiff, Nat.reduceEqDiff, Nat.reduceAdd, Nat.reduceSub, Nat.reduceMul, reduceIte, reduceCtorEq, g0, g1, e1, e2, e3, hc] <;> rfl)))); refine sk_id ?_)))
          | ((first | (apply sk_c; rfl; rfl)); (simp only [go_sem, Nat.reduceLT, Nat.reduceLeDiff, Nat.reduceEqDiff, Nat.reduceAdd, Nat.reduceSub, Nat.reduceMul, reduceIte, reduceCtorEq, g0, g1, e1, e2, e3, hc] <;> rfl); (first
              | (refine s6.mono ?_; rintro _ _ ⟨rfl, rfl⟩)
              | (refine s8.mono ?_; rintro _ _ ⟨rfl, rfl⟩)
              | (refine (f68_tr _ _ d k1 _ _ _ (get_put_same _ _ _)).mono ?_; rintro _ _ ⟨rfl, rfl⟩)
              | (refine (f68_tr _ _ d n _ _ _ (get_put_same _ _ _)).mono ?_; rintro _ _ ⟨rfl, rfl⟩)
              | (refine (f68_tr _ _ d k2 _ _ _ (get_put_same _ _ _)).mono ?_; rintro _ _ ⟨rfl, rfl⟩)
              | (refine (f33_tr _ hx8 _).mono ?_; rintro _ _ ⟨rfl, rfl⟩)
              | (refine (s6b _ (get_put_same _ _ _)).mono ?_; rintro _ _ ⟨rfl, rfl⟩)); (first | refine sk_id ?_ | (refine ⟨?_, ?_⟩; (repeat (first | exact trivial | ((first | (apply redos_r; rfl; rfl) | (apply redos_g; rfl; rfl; rfl; rfl)); (simp only [go_sem, Nat.reduceLT, Nat.reduceLeDiff, Nat.reduceEqDiff, Nat.reduceAdd, Nat.reduceSub, Nat.reduceMul, reduceIte, reduceCtorEq, g0, g1, e1, e2, e3, hc] <;> rfl)) | (apply redos_s; rfl; rfl; rfl; (simp only [go_sem, Nat.reduceLT, Nat.reduceLeDiff, Nat.reduceEqDiff, Nat.reduceAdd, Nat.reduceSub, Nat.reduceMul, reduceIte, reduceCtorEq, g0, g1, e1, e2, e3, hc] <;> rfl)))); refine sk_id ?_))))
        exact sk_ret ⟨_, (by first | (simp only [aRet, Tryd.results49, aResults, aResult, go_sem, Nat.reduceLT, Nat.reduceLeDiff, Nat.reduceEqDiff, Nat.reduceAdd, Nat.reduceSub, Nat.reduceMul, reduceIte, reduceCtorEq] <;> rfl) | fail), rfl, fun b x h => keep _ _ b x h, by exact ⟨rfl, by trivial⟩⟩
  · rw [List.getElem?_eq_none (by omega)]
    have e1 : decide ((k1 : Int) ≥ d.length) = true := by simp; omega
    repeat (first
      | refine sk_seq ?_
      | refine sk_region ?_
      | refine sk_ops_nil ?_
      | refine sk_draw_nil ?_
      | refine sk_block ?_
      | refine sk_blk ?_
      | refine sk_skip ?_
      | refine sk_exit rfl ?_
      | refine sk_draw (id := 6) [0, 1, 2, 3, 4, 5, 6, 7] mixed (by kernel_rfl) ?_
      | refine sk_draw (id := 13) [0, 1, 2, 3, 4, 5, 6, 7, 8] mixed (by kernel_rfl) ?_
      | refine sk_draw (id := 18) [0, 1, 2, 3, 4, 5, 6, 7, 8, 9] mixed (by kernel_rfl) ?_
      | ((first | (apply sk_r; rfl; rfl) | (apply sk_w; rfl; rfl) | (apply sk_i; rfl) | (apply sk_g; rfl; rfl) | (apply sk_dr; rfl; rfl; rfl) | (apply sk_dg; rfl; rfl; rfl; rfl; rfl) | apply drd_i | (apply sk_dnr (i := 5) (fl := [4, 3, 2, 1]); rfl; rfl; decide +kernel; rfl; rfl) | (apply sk_dnw (i := 5) (fl := [4, 3, 2, 1]); rfl; rfl; decide +kernel; rfl; rfl) | (apply sk_dnr (i := 6) (fl := []); rfl; rfl; decide +kernel; rfl; rfl) | (apply sk_dnw (i := 6) (fl := []); rfl; rfl; decide +kernel; rfl; rfl) | (apply sk_dnr (i := 7) (fl := []); rfl; rfl; decide +kernel; rfl; rfl) | (apply sk_dnw (i := 7) (fl := []); rfl; rfl; decide +kernel; rfl; rfl) | (apply sk_dnr (i := 6) (fl := [5, 4, 3, 2]); rfl; rfl; decide +kernel; rfl; rfl) | (apply sk_dnw (i := 6) (fl := [5, 4, 3, 2]); rfl; rfl; decide +kernel; rfl; rfl) | (apply sk_dnr (i := 7) (fl := []); rfl; rfl; decide +kernel; rfl; rfl) | (apply sk_dnw (i := 7) (fl := []); rfl; rfl; decide +kernel; rfl; rfl) | (apply sk_dnr (i := 8) (fl := []); rfl; rfl; decide +kernel; rfl; rfl) | (apply sk_dnw (i := 8) (fl := []); rfl; rfl; decide +kernel; rfl; rfl) | (apply sk_dnr (i := 7) (fl := [6, 5, 4, 3]); rfl; rfl; decide +kernel; rfl; rfl) | (apply sk_dnw (i := 7) (fl := [6, 5, 4, 3]); rfl; rfl; decide +kernel; rfl; rfl) | (apply sk_dnr (i := 8) (fl := []); rfl; rfl; decide +kernel; rfl; rfl) | (apply sk_dnw (i := 8) (fl := []); rfl; rfl; decide +kernel; rfl; rfl) | (apply sk_dnr (i := 9) (fl := []); rfl; rfl; decide +kernel; rfl; rfl) | (apply sk_dnw (i := 9) (fl := []); rfl; rfl; decide +kernel; rfl; rfl)); (simp only [go_sem, Nat.reduceLT, Nat.reduceLeDiff, Nat.reduceEqDiff, Nat.reduceAdd, Nat.reduceSub, Nat.reduceMul, reduceIte, reduceCtorEq, g0, g1, e1] <;> rfl); (first | refine sk_id ?_ | refine cs_t ?_ | refine cs_f ?_ | refine gs_t rfl ?_ | refine gs_f rfl ?_ | ((repeat (first | exact trivial | ((first | (apply redos_r; rfl; rfl) | (apply redos_g; rfl; rfl; rfl; rfl)); (simp only [go_sem, Nat.reduceLT, Nat.reduceLeDiff, Nat.reduceEqDiff, Nat.reduceAdd, Nat.reduceSub, Nat.reduceMul, reduceIte, reduceCtorEq, g0, g1, e1] <;> rfl)) | (apply redos_s; rfl; rfl; rfl; (simp only [go_sem, Nat.reduceLT, Nat.reduceLeDiff, Nat.reduceEqDiff, Nat.reduceAdd, Nat.reduceSub, Nat.reduceMul, reduceIte, reduceCtorEq, g0, g1, e1] <;> rfl)))); refine sk_id ?_)))
      | ((first | (apply sk_c; rfl; rfl)); (simp only [go_sem, Nat.reduceLT, Nat.reduceLeDiff, Nat.reduceEqDiff, Nat.reduceAdd, Nat.reduceSub, Nat.reduceMul, reduceIte, reduceCtorEq, g0, g1, e1] <;> rfl); (first
          | (refine s6.mono ?_; rintro _ _ ⟨rfl, rfl⟩)
          | (refine s8.mono ?_; rintro _ _ ⟨rfl, rfl⟩)
          | (refine (f68_tr _ _ d k1 _ _ _ (get_put_same _ _ _)).mono ?_; rintro _ _ ⟨rfl, rfl⟩)
          | (refine (f68_tr _ _ d n _ _ _ (get_put_same _ _ _)).mono ?_; rintro _ _ ⟨rfl, rfl⟩)
          | (refine (f68_tr _ _ d k2 _ _ _ (get_put_same _ _ _)).mono ?_; rintro _ _ ⟨rfl, rfl⟩)
          | (refine (f33_tr _ hx8 _).mono ?_; rintro _ _ ⟨rfl, rfl⟩)
          | (refine (s6b _ (get_put_same _ _ _)).mono ?_; rintro _ _ ⟨rfl, rfl⟩)); (first | refine sk_id ?_ | (refine ⟨?_, ?_⟩; (repeat (first | exact trivial | ((first | (apply redos_r; rfl; rfl) | (apply redos_g; rfl; rfl; rfl; rfl)); (simp only [go_sem, Nat.reduceLT, Nat.reduceLeDiff, Nat.reduceEqDiff, Nat.reduceAdd, Nat.reduceSub, Nat.reduceMul, reduceIte, reduceCtorEq, g0, g1, e1] <;> rfl)) | (apply redos_s; rfl; rfl; rfl; (simp only [go_sem, Nat.reduceLT, Nat.reduceLeDiff, Nat.reduceEqDiff, Nat.reduceAdd, Nat.reduceSub, Nat.reduceMul, reduceIte, reduceCtorEq, g0, g1, e1] <;> rfl)))); refine sk_id ?_))))
    exact sk_ret ⟨_, (by first | (simp only [aRet, Tryd.results49, aResults, aResult, go_sem, Nat.reduceLT, Nat.reduceLeDiff, Nat.reduceEqDiff, Nat.reduceAdd, Nat.reduceSub, Nat.reduceMul, reduceIte, reduceCtorEq] <;> rfl) | fail), rfl, fun b x h => keep _ _ b x h, by exact ⟨rfl, by trivial⟩⟩
end Go.Proofs.YtophnlmdcidolaaDoor
