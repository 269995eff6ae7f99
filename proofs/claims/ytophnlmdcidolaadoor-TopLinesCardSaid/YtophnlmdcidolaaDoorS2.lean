import Derived.Test.YtophnlmdcidolaaDoorS
import Derived.Test.YtophnlmdcidolaaDoorF
set_option linter.all false
namespace Go.Proofs.YtophnlmdcidolaaDoor
open Go Go.Am
set_option maxHeartbeats 8000000
set_option maxRecDepth 100000

theorem slTy29 : SlTy Tryd.prog 29 2 := ⟨33, (Tryd.prog.info? 33).get (by kernel_rfl), _, Tryd.underlying29, (Option.some_get _).symm, by kernel_rfl, Nat.le_of_ble_eq_true (by kernel_rfl), zo33, by kernel_rfl, by decide⟩
theorem slTy52 : SlTy Tryd.prog 52 3 := ⟨101, (Tryd.prog.info? 101).get (by kernel_rfl), _, Tryd.underlying52, (Option.some_get _).symm, by kernel_rfl, Nat.le_of_ble_eq_true (by kernel_rfl), zo101, by kernel_rfl, by decide⟩
abbrev zB : AV := .str []
abbrev OwnD := Own zB
@[go_sem] theorem bs29 (σ : AHeap) (v a : Int) : aBuildSlice Tryd.prog σ 29 1 [(0, .agg [.int .i64 v, .int .i64 a])] = some (.slice σ.next 0 1 1 true 2, σ.push (.cells [.int .i64 v, .int .i64 a] false 0 [])) := by kernel_rfl

theorem f41_tr {σ : AHeap} {D : Nat} {s : Dst} (v : Int) (a : Nat) (h : OwnD σ D s) (hn : s.out.length ≤ 1000000) :
    Tr Tryd.prog 41 [.ptr D 0, .int .i64 v, .int .i64 (a : Nat)] σ fun r σ' => r = .tuple [] ∧ ∃ ob, OwnD σ' D { s with out := s.out ++ [(v, a)], ob := ob } ∧ Fr σ D s σ' { s with out := s.out ++ [(v, a)], ob := ob } := by
  have hD := wf_lt h.wf h.d
  have hd := h.d
  unfold cellsOf at hd
  have g1 : ∀ X, (σ.push X).m.get D = some (.cells (cellsOf s) false 0 []) := fun X => by rw [get_push, if_neg (by omega)]; exact h.d
  unfold cellsOf at g1
  refine sk_body (m := 18) Tryd.func41 rfl (by decide) rfl ?_
  cases ho : s.out with
  | nil =>
    have a1 := app_first (P := Tryd.prog) (ex := true) (σ := σ.push (.cells [.int .i64 v, .int .i64 (a : Nat)] false 0 [])) slTy29 rfl (get_push_same σ (.cells [.int .i64 v, .int .i64 (a : Nat)] false 0 []))
    simp only [next_push] at a1
    have g2 : ∀ X Y, ((σ.push X).push Y).m.get D = some (.cells (cellsOf s) false 0 []) := fun X Y => by rw [get_push, if_neg (by rw [next_push]; omega), get_push, if_neg (by omega)]; exact h.d
    unfold cellsOf at g2
    have e0 : slV s.ob s.out.length 2 = .nilslice := by rw [ho]; rfl
    rw [e0] at hd g1 g2
    repeat (first
      | refine sk_seq ?_
      | refine sk_region ?_
      | refine sk_ops_nil ?_
      | refine sk_block ?_
      | refine sk_blk ?_
      | refine sk_skip ?_
      | refine sk_exit rfl ?_
      | ((first | (apply sk_r; rfl; rfl) | (apply sk_w; rfl; rfl) | (apply sk_i; rfl) | (apply sk_g; rfl; rfl)); (simp only [go_sem, Nat.reduceLT, Nat.reduceLeDiff, Nat.reduceEqDiff, Nat.reduceAdd, Nat.reduceSub, Nat.reduceMul, reduceIte, reduceCtorEq, hd, g1, g2, a1] <;> rfl); (first | refine sk_id ?_ | refine cs_t ?_ | refine cs_f ?_ | refine gs_t rfl ?_ | refine gs_f rfl ?_)))
    exact sk_end ⟨_, (by first | (simp only [aRet, Tryd.results41, aResults, aResult, go_sem, Nat.reduceLT, Nat.reduceLeDiff, Nat.reduceEqDiff, Nat.reduceAdd, Nat.reduceSub, Nat.reduceMul, reduceIte, reduceCtorEq] <;> rfl) | fail), rfl, σ.next + 1, own_out (σ2 := (σ.push (.cells [.int .i64 v, .int .i64 (a : Nat)] false 0 [])).push (.cells [.int .i64 v, .int .i64 (a : Nat)] false 0 [])) (nb := σ.next + 1) (s' := { s with out := [] ++ [(v, a)], ob := σ.next + 1 }) h
      (wf_push (wf_push h.wf _) _) (by simp only [next_push]; omega) (fun b x hb _ => keep_push h.wf (by simp only [next_push]; omega) (keep_push h.wf (Nat.le_refl _) fun _ _ k => k) b x hb) (by omega) (get_push_same (σ.push (.cells [.int .i64 v, .int .i64 (a : Nat)] false 0 [])) _) rfl rfl rfl rfl⟩
  | cons r t =>
    have hne : s.out ≠ [] := by rw [ho]; simp
    have hb := h.o hne
    have hob := wf_lt h.wf hb
    have hnD := h.n1 hne
    rw [ho] at hb
    have hb1 : (σ.push (.cells [.int .i64 v, .int .i64 (a : Nat)] false 0 [])).m.get s.ob = some (.cells (flatR (r :: t)) false 0 []) := by rw [get_push, if_neg (by omega)]; exact hb
    have hn' : (r :: t).length ≤ 1000000 := by rw [← ho]; exact hn
    have a1 := app_next (P := Tryd.prog) (ex := true) (n := t.length + 1) slTy29 rfl (get_push_same σ (.cells [.int .i64 v, .int .i64 (a : Nat)] false 0 [])) hb1 (by rw [flatR_len]; rfl) (by omega) (by simp only [List.length_cons] at hn'; omega) rfl
    simp only [next_push] at a1
    have g2 : ∀ X Y, (((σ.push X).m.del s.ob).set (σ.next + 1) Y).get D = some (.cells (cellsOf s) false 0 []) := fun X Y => by rw [get_move, if_neg (by omega), if_neg hnD, get_push, if_neg (by omega)]; exact h.d
    unfold cellsOf at g2
    have e0 : slV s.ob s.out.length 2 = .slice s.ob 0 (t.length + 1) (t.length + 1) false 2 := by rw [ho]; rfl
    rw [e0] at hd g1 g2
    repeat (first
      | refine sk_seq ?_
      | refine sk_region ?_
      | refine sk_ops_nil ?_
      | refine sk_block ?_
      | refine sk_blk ?_
      | refine sk_skip ?_
      | refine sk_exit rfl ?_
      | ((first | (apply sk_r; rfl; rfl) | (apply sk_w; rfl; rfl) | (apply sk_i; rfl) | (apply sk_g; rfl; rfl)); (simp only [go_sem, Nat.reduceLT, Nat.reduceLeDiff, Nat.reduceEqDiff, Nat.reduceAdd, Nat.reduceSub, Nat.reduceMul, reduceIte, reduceCtorEq, hd, g1, g2, a1] <;> rfl); (first | refine sk_id ?_ | refine cs_t ?_ | refine cs_f ?_ | refine gs_t rfl ?_ | refine gs_f rfl ?_)))
    refine sk_end ⟨_, (by first | (simp only [aRet, Tryd.results41, aResults, aResult, go_sem, Nat.reduceLT, Nat.reduceLeDiff, Nat.reduceEqDiff, Nat.reduceAdd, Nat.reduceSub, Nat.reduceMul, reduceIte, reduceCtorEq] <;> rfl) | fail), rfl, σ.next + 1, own_out (σ2 := ⟨((σ.push (.cells [.int .i64 v, .int .i64 (a : Nat)] false 0 [])).m.del s.ob).set (σ.next + 1) (.cells (flatR (r :: t) ++ [.int .i64 v, .int .i64 (a : Nat)]) false 0 []), σ.next + 1 + 1⟩) (nb := σ.next + 1) (s' := { s with out := r :: t ++ [(v, a)], ob := σ.next + 1 }) h
      (wf_move (wf_push h.wf _)) (by show σ.next ≤ σ.next + 1 + 1; omega) (fun b x hb hne2 => ?_) (by omega) ?_ rfl rfl rfl (by unfold cellsOf; rw [show (r :: t ++ [(v, a)]).length = t.length + 1 + 1 by simp] <;> rfl)⟩
    · have := wf_lt h.wf hb
      show (((σ.push _).m.del s.ob).set (σ.next + 1) _).get b = some x
      rw [get_move, if_neg (by omega), if_neg (Ne.symm (hne2 hne)), get_push, if_neg (by omega)]
      exact hb
    · show (((σ.push _).m.del s.ob).set (σ.next + 1) _).get (σ.next + 1) = _
      rw [get_move, if_pos rfl, flatR_app]
      rfl

@[go_sem] theorem bs52 (σ : AHeap) (a b : Int) (c : List Nat) : aBuildSlice Tryd.prog σ 52 1 [(0, .agg [.int .i64 a, .int .i64 b, .str c])] = some (.slice σ.next 0 1 1 true 3, σ.push (.cells [.int .i64 a, .int .i64 b, .str c] false 0 [])) := by kernel_rfl

theorem f43_tr {σ : AHeap} {D : Nat} {s : Dst} (h : OwnD σ D s) (hn : s.out.length ≤ 1000000) (hb : s.bad.length ≤ 1000000) :
    Tr Tryd.prog 43 [.ptr D 0] σ fun r σ' => r = .tuple [] ∧ ∃ ob bb, OwnD σ' D { s with out := s.out ++ [(65533, s.bg)], bad := s.bad ++ [s.bg], lf := 0, ob := ob, bb := bb } ∧
      Fr σ D s σ' { s with out := s.out ++ [(65533, s.bg)], bad := s.bad ++ [s.bg], lf := 0, ob := ob, bb := bb } := by
  have hd := h.d
  unfold cellsOf at hd
  refine sk_body (m := 25) Tryd.func43 rfl (by decide) rfl ?_
  repeat (first
    | refine sk_seq ?_
    | refine sk_region ?_
    | refine sk_ops_nil ?_
    | refine sk_draw_nil ?_
    | refine sk_block ?_
    | refine sk_blk ?_
    | refine sk_skip ?_
    | refine sk_exit rfl ?_
    | refine sk_draw (id := 1) [0, 1, 2, 3, 4, 5, 6, 7, 8, 9, 10, 11, 12, 13, 14] mixed (by kernel_rfl) ?_
    | ((first | (apply sk_r; rfl; rfl) | (apply sk_w; rfl; rfl) | (apply sk_i; rfl) | (apply sk_g; rfl; rfl) | (apply sk_dr; rfl; rfl; rfl) | (apply sk_dg; rfl; rfl; rfl; rfl; rfl) | apply drd_i | (apply sk_dnr (i := 10) (fl := [4, 3, 2, 1, 0]); rfl; rfl; decide +kernel; rfl; rfl) | (apply sk_dnw (i := 10) (fl := [4, 3, 2, 1, 0]); rfl; rfl; decide +kernel; rfl; rfl) | (apply sk_dnr (i := 11) (fl := [0]); rfl; rfl; decide +kernel; rfl; rfl) | (apply sk_dnw (i := 11) (fl := [0]); rfl; rfl; decide +kernel; rfl; rfl) | (apply sk_dnr (i := 14) (fl := []); rfl; rfl; decide +kernel; rfl; rfl) | (apply sk_dnw (i := 14) (fl := []); rfl; rfl; decide +kernel; rfl; rfl)); (simp only [go_sem, Nat.reduceLT, Nat.reduceLeDiff, Nat.reduceEqDiff, Nat.reduceAdd, Nat.reduceSub, Nat.reduceMul, reduceIte, reduceCtorEq, hd] <;> rfl); (first | refine sk_id ?_ | refine cs_t ?_ | refine cs_f ?_ | refine gs_t rfl ?_ | refine gs_f rfl ?_ | ((repeat (first | exact trivial | ((first | (apply redos_r; rfl; rfl) | (apply redos_g; rfl; rfl; rfl; rfl)); (simp only [go_sem, Nat.reduceLT, Nat.reduceLeDiff, Nat.reduceEqDiff, Nat.reduceAdd, Nat.reduceSub, Nat.reduceMul, reduceIte, reduceCtorEq, hd] <;> rfl)) | (apply redos_s; rfl; rfl; rfl; (simp only [go_sem, Nat.reduceLT, Nat.reduceLeDiff, Nat.reduceEqDiff, Nat.reduceAdd, Nat.reduceSub, Nat.reduceMul, reduceIte, reduceCtorEq, hd] <;> rfl)))); refine sk_id ?_)))
    | ((first | (apply sk_c; rfl; rfl)); (simp only [go_sem, Nat.reduceLT, Nat.reduceLeDiff, Nat.reduceEqDiff, Nat.reduceAdd, Nat.reduceSub, Nat.reduceMul, reduceIte, reduceCtorEq, hd] <;> rfl); (first
        | (refine (f41_tr 65533 s.bg h hn).mono ?_; rintro _ τ ⟨rfl, ob, h1, hf1⟩)); (first | refine sk_id ?_ | (refine ⟨?_, ?_⟩; (repeat (first | exact trivial | ((first | (apply redos_r; rfl; rfl) | (apply redos_g; rfl; rfl; rfl; rfl)); (simp only [go_sem, Nat.reduceLT, Nat.reduceLeDiff, Nat.reduceEqDiff, Nat.reduceAdd, Nat.reduceSub, Nat.reduceMul, reduceIte, reduceCtorEq, hd] <;> rfl)) | (apply redos_s; rfl; rfl; rfl; (simp only [go_sem, Nat.reduceLT, Nat.reduceLeDiff, Nat.reduceEqDiff, Nat.reduceAdd, Nat.reduceSub, Nat.reduceMul, reduceIte, reduceCtorEq, hd] <;> rfl)))); refine sk_id ?_))))
  clear hd
  obtain ⟨s1, hs1⟩ : ∃ s1 : Dst, s1 = { s with out := s.out ++ [(65533, s.bg)], ob := ob } := ⟨_, rfl⟩
  rw [← hs1] at h1 hf1
  have ebg : s.bg = s1.bg := by rw [hs1]
  have hfin : ∀ bb, ({ s with out := s.out ++ [(65533, s.bg)], bad := s.bad ++ [s.bg], lf := 0, ob := ob, bb := bb } : Dst) = { s1 with bad := s1.bad ++ [s1.bg], lf := 0, bb := bb } := by intro bb; rw [hs1]
  have hb1 : s1.bad.length ≤ 1000000 := by rw [hs1]; exact hb
  clear hs1
  have hD := wf_lt h1.wf h1.d
  have hd := h1.d
  have g1 : ∀ X, (τ.push X).m.get D = some (.cells (cellsOf s1) false 0 []) := fun X => by rw [get_push, if_neg (by omega)]; exact h1.d
  unfold cellsOf at hd g1
  cases ho : s1.bad with
  | nil =>
    have a1 := app_first (P := Tryd.prog) (ex := true) (σ := τ.push (.cells [.int .i64 2, .int .i64 (s1.bg : Nat), .str []] false 0 [])) slTy52 rfl (get_push_same τ (.cells [.int .i64 2, .int .i64 (s1.bg : Nat), .str []] false 0 []))
    simp only [next_push] at a1
    have g2 : ∀ X Y, ((τ.push X).push Y).m.get D = some (.cells (cellsOf s1) false 0 []) := fun X Y => by rw [get_push, if_neg (by rw [next_push]; omega), get_push, if_neg (by omega)]; exact h1.d
    unfold cellsOf at g2
    have e0 : slV s1.bb s1.bad.length 3 = .nilslice := by rw [ho]; rfl
    rw [e0] at hd g1 g2
    repeat (first
      | refine sk_seq ?_
      | refine sk_region ?_
      | refine sk_ops_nil ?_
      | refine sk_draw_nil ?_
      | refine sk_block ?_
      | refine sk_blk ?_
      | refine sk_skip ?_
      | refine sk_exit rfl ?_
      | refine sk_draw (id := 1) [0, 1, 2, 3, 4, 5, 6, 7, 8, 9, 10, 11, 12, 13, 14] mixed (by kernel_rfl) ?_
      | ((first | (apply sk_r; rfl; rfl) | (apply sk_w; rfl; rfl) | (apply sk_i; rfl) | (apply sk_g; rfl; rfl) | (apply sk_dr; rfl; rfl; rfl) | (apply sk_dg; rfl; rfl; rfl; rfl; rfl) | apply drd_i | (apply sk_dnr (i := 10) (fl := [4, 3, 2, 1, 0]); rfl; rfl; decide +kernel; rfl; rfl) | (apply sk_dnw (i := 10) (fl := [4, 3, 2, 1, 0]); rfl; rfl; decide +kernel; rfl; rfl) | (apply sk_dnr (i := 11) (fl := [0]); rfl; rfl; decide +kernel; rfl; rfl) | (apply sk_dnw (i := 11) (fl := [0]); rfl; rfl; decide +kernel; rfl; rfl) | (apply sk_dnr (i := 14) (fl := []); rfl; rfl; decide +kernel; rfl; rfl) | (apply sk_dnw (i := 14) (fl := []); rfl; rfl; decide +kernel; rfl; rfl)); (simp only [go_sem, Nat.reduceLT, Nat.reduceLeDiff, Nat.reduceEqDiff, Nat.reduceAdd, Nat.reduceSub, Nat.reduceMul, reduceIte, reduceCtorEq, hd, g1, g2, a1] <;> rfl); (first | refine sk_id ?_ | refine cs_t ?_ | refine cs_f ?_ | refine gs_t rfl ?_ | refine gs_f rfl ?_ | ((repeat (first | exact trivial | ((first | (apply redos_r; rfl; rfl) | (apply redos_g; rfl; rfl; rfl; rfl)); (simp only [go_sem, Nat.reduceLT, Nat.reduceLeDiff, Nat.reduceEqDiff, Nat.reduceAdd, Nat.reduceSub, Nat.reduceMul, reduceIte, reduceCtorEq, hd, g1, g2, a1] <;> rfl)) | (apply redos_s; rfl; rfl; rfl; (simp only [go_sem, Nat.reduceLT, Nat.reduceLeDiff, Nat.reduceEqDiff, Nat.reduceAdd, Nat.reduceSub, Nat.reduceMul, reduceIte, reduceCtorEq, hd, g1, g2, a1] <;> rfl)))); refine sk_id ?_))))
    have w := own_bad (σ2 := (τ.push (.cells [.int .i64 2, .int .i64 (s1.bg : Nat), .str []] false 0 [])).push (.cells [.int .i64 2, .int .i64 (s1.bg : Nat), .str []] false 0 [])) (nb := τ.next + 1) (s' := { s1 with bad := s1.bad ++ [s1.bg], lf := 0, bb := τ.next + 1 }) h1
      (wf_push (wf_push h1.wf _) _) (by simp only [next_push]; omega) (fun b x hb _ => keep_push h1.wf (by simp only [next_push]; omega) (keep_push h1.wf (Nat.le_refl _) fun _ _ k => k) b x hb) (by omega) (by rw [ho]; exact get_push_same (τ.push (.cells [.int .i64 2, .int .i64 (s1.bg : Nat), .str []] false 0 [])) _) rfl rfl rfl (by unfold cellsOf; (rw [ho]) <;> rfl)
    exact sk_end ⟨_, (by first | (simp only [aRet, Tryd.results43, aResults, aResult, go_sem, Nat.reduceLT, Nat.reduceLeDiff, Nat.reduceEqDiff, Nat.reduceAdd, Nat.reduceSub, Nat.reduceMul, reduceIte, reduceCtorEq] <;> rfl) | fail), rfl, ob, τ.next + 1, by rw [hfin]; exact w.1, by rw [hfin]; exact hf1.trans w.2⟩
  | cons r t =>
    have hne : s1.bad ≠ [] := by rw [ho]; simp
    have hb := h1.b hne
    have hob := wf_lt h1.wf hb
    have hnD := h1.n2 hne
    rw [ho] at hb hb1
    have hb2 : (τ.push (.cells [.int .i64 2, .int .i64 (s1.bg : Nat), .str []] false 0 [])).m.get s1.bb = some (.cells (flatB zB (r :: t)) false 0 []) := by rw [get_push, if_neg (by omega)]; exact hb
    have a1 := app_next (P := Tryd.prog) (ex := true) (n := t.length + 1) slTy52 rfl (get_push_same τ (.cells [.int .i64 2, .int .i64 (s1.bg : Nat), .str []] false 0 [])) hb2 (by rw [flatB_len]; rfl) (by omega) (by simp only [List.length_cons] at hb1; omega) rfl
    simp only [next_push] at a1
    have g2 : ∀ X Y, (((τ.push X).m.del s1.bb).set (τ.next + 1) Y).get D = some (.cells (cellsOf s1) false 0 []) := fun X Y => by rw [get_move, if_neg (by omega), if_neg hnD, get_push, if_neg (by omega)]; exact h1.d
    unfold cellsOf at g2
    have e0 : slV s1.bb s1.bad.length 3 = .slice s1.bb 0 (t.length + 1) (t.length + 1) false 3 := by rw [ho]; rfl
    rw [e0] at hd g1 g2
    repeat (first
      | refine sk_seq ?_
      | refine sk_region ?_
      | refine sk_ops_nil ?_
      | refine sk_draw_nil ?_
      | refine sk_block ?_
      | refine sk_blk ?_
      | refine sk_skip ?_
      | refine sk_exit rfl ?_
      | refine sk_draw (id := 1) [0, 1, 2, 3, 4, 5, 6, 7, 8, 9, 10, 11, 12, 13, 14] mixed (by kernel_rfl) ?_
      | ((first | (apply sk_r; rfl; rfl) | (apply sk_w; rfl; rfl) | (apply sk_i; rfl) | (apply sk_g; rfl; rfl) | (apply sk_dr; rfl; rfl; rfl) | (apply sk_dg; rfl; rfl; rfl; rfl; rfl) | apply drd_i | (apply sk_dnr (i := 10) (fl := [4, 3, 2, 1, 0]); rfl; rfl; decide +kernel; rfl; rfl) | (apply sk_dnw (i := 10) (fl := [4, 3, 2, 1, 0]); rfl; rfl; decide +kernel; rfl; rfl) | (apply sk_dnr (i := 11) (fl := [0]); rfl; rfl; decide +kernel; rfl; rfl) | (apply sk_dnw (i := 11) (fl := [0]); rfl; rfl; decide +kernel; rfl; rfl) | (apply sk_dnr (i := 14) (fl := []); rfl; rfl; decide +kernel; rfl; rfl) | (apply sk_dnw (i := 14) (fl := []); rfl; rfl; decide +kernel; rfl; rfl)); (simp only [go_sem, Nat.reduceLT, Nat.reduceLeDiff, Nat.reduceEqDiff, Nat.reduceAdd, Nat.reduceSub, Nat.reduceMul, reduceIte, reduceCtorEq, hd, g1, g2, a1] <;> rfl); (first | refine sk_id ?_ | refine cs_t ?_ | refine cs_f ?_ | refine gs_t rfl ?_ | refine gs_f rfl ?_ | ((repeat (first | exact trivial | ((first | (apply redos_r; rfl; rfl) | (apply redos_g; rfl; rfl; rfl; rfl)); (simp only [go_sem, Nat.reduceLT, Nat.reduceLeDiff, Nat.reduceEqDiff, Nat.reduceAdd, Nat.reduceSub, Nat.reduceMul, reduceIte, reduceCtorEq, hd, g1, g2, a1] <;> rfl)) | (apply redos_s; rfl; rfl; rfl; (simp only [go_sem, Nat.reduceLT, Nat.reduceLeDiff, Nat.reduceEqDiff, Nat.reduceAdd, Nat.reduceSub, Nat.reduceMul, reduceIte, reduceCtorEq, hd, g1, g2, a1] <;> rfl)))); refine sk_id ?_))))
    have w := own_bad (σ2 := ⟨((τ.push (.cells [.int .i64 2, .int .i64 (s1.bg : Nat), .str []] false 0 [])).m.del s1.bb).set (τ.next + 1) (.cells (flatB zB (r :: t) ++ [.int .i64 2, .int .i64 (s1.bg : Nat), .str []]) false 0 []), τ.next + 1 + 1⟩) (nb := τ.next + 1) (s' := { s1 with bad := s1.bad ++ [s1.bg], lf := 0, bb := τ.next + 1 }) h1
      (wf_move (wf_push h1.wf _)) (by show τ.next ≤ τ.next + 1 + 1; omega) (fun b x hb hne2 => by
        have := wf_lt h1.wf hb
        show (((τ.push _).m.del s1.bb).set (τ.next + 1) _).get b = some x
        rw [get_move, if_neg (by omega), if_neg (Ne.symm (hne2 hne)), get_push, if_neg (by omega)]
        exact hb) (by omega) (by
        show (((τ.push _).m.del s1.bb).set (τ.next + 1) _).get (τ.next + 1) = _
        rw [get_move, if_pos rfl, ho, flatB_app]
        rfl) rfl rfl rfl (by unfold cellsOf; rw [ho, show (r :: t ++ [s1.bg]).length = t.length + 1 + 1 by simp] <;> rfl)
    exact sk_end ⟨_, (by first | (simp only [aRet, Tryd.results43, aResults, aResult, go_sem, Nat.reduceLT, Nat.reduceLeDiff, Nat.reduceEqDiff, Nat.reduceAdd, Nat.reduceSub, Nat.reduceMul, reduceIte, reduceCtorEq] <;> rfl) | fail), rfl, ob, τ.next + 1, by rw [hfin]; exact w.1, by rw [hfin]; exact hf1.trans w.2⟩

/-- what is told; nothing is left -/
theorem f42_tr {σ : AHeap} {D : Nat} {s : Dst} (h : OwnD σ D s) :
    Tr Tryd.prog 42 [.ptr D 0] σ fun r σ' => r = .tuple [slV s.ob s.out.length 2, slV s.bb s.bad.length 3] ∧ σ' = σ.put D (.cells (cellsOf { s with out := [], bad := [] }) false 0 []) [] := by
  have hd := h.d
  unfold cellsOf at hd
  refine sk_body (m := 22) Tryd.func42 rfl (by decide) rfl ?_
  repeat (first
    | refine sk_seq ?_
    | refine sk_region ?_
    | refine sk_ops_nil ?_
    | refine sk_draw_nil ?_
    | refine sk_block ?_
    | refine sk_blk ?_
    | refine sk_skip ?_
    | refine sk_exit rfl ?_
    | refine sk_draw (id := 1) [0, 1, 2, 3, 4, 5, 6, 7, 8, 9] mixed (by kernel_rfl) ?_
    | ((first | (apply sk_r; rfl; rfl) | (apply sk_w; rfl; rfl) | (apply sk_i; rfl) | (apply sk_g; rfl; rfl) | (apply sk_dr; rfl; rfl; rfl) | (apply sk_dg; rfl; rfl; rfl; rfl; rfl) | apply drd_i | (apply sk_dnr (i := 8) (fl := [7, 6, 5, 4]); rfl; rfl; decide +kernel; rfl; rfl) | (apply sk_dnw (i := 8) (fl := [7, 6, 5, 4]); rfl; rfl; decide +kernel; rfl; rfl) | (apply sk_dnr (i := 9) (fl := []); rfl; rfl; decide +kernel; rfl; rfl) | (apply sk_dnw (i := 9) (fl := []); rfl; rfl; decide +kernel; rfl; rfl)); (simp only [go_sem, Nat.reduceLT, Nat.reduceLeDiff, Nat.reduceEqDiff, Nat.reduceAdd, Nat.reduceSub, Nat.reduceMul, reduceIte, reduceCtorEq, hd] <;> rfl); (first | refine sk_id ?_ | refine cs_t ?_ | refine cs_f ?_ | refine gs_t rfl ?_ | refine gs_f rfl ?_ | ((repeat (first | exact trivial | ((first | (apply redos_r; rfl; rfl) | (apply redos_g; rfl; rfl; rfl; rfl)); (simp only [go_sem, Nat.reduceLT, Nat.reduceLeDiff, Nat.reduceEqDiff, Nat.reduceAdd, Nat.reduceSub, Nat.reduceMul, reduceIte, reduceCtorEq, hd] <;> rfl)) | (apply redos_s; rfl; rfl; rfl; (simp only [go_sem, Nat.reduceLT, Nat.reduceLeDiff, Nat.reduceEqDiff, Nat.reduceAdd, Nat.reduceSub, Nat.reduceMul, reduceIte, reduceCtorEq, hd] <;> rfl)))); refine sk_id ?_))))
  exact sk_ret ⟨_, (by first | (simp only [aRet, Tryd.results42, aResults, aResult, go_sem, Nat.reduceLT, Nat.reduceLeDiff, Nat.reduceEqDiff, Nat.reduceAdd, Nat.reduceSub, Nat.reduceMul, reduceIte, reduceCtorEq] <;> rfl) | fail), rfl, rfl⟩
end Go.Proofs.YtophnlmdcidolaaDoor
