import Derived.Test.YtophnlmdcidolaaDoorS12
set_option linter.all false
namespace Go.Am
variable {P : Program}
theorem app_one {st : TypeId} {z n c ba : Nat} {σ : AHeap} {xs ys : List AV} {ex : Bool} (h : SlTy P st z) (hW : WF σ) (hx : xs.length = n * z) (hA : n ≠ 0 → σ.m.get ba = some (.cells xs false 0 [])) (hy : ys.length = z) (ho : oneAll ys = true)
    (hc : σ.m.get c = some (.cells ys false 0 [])) (hn : n ≤ 1000000) :
    ∃ q H, aAppend P σ [st, st] [slV ba n z, .slice c 0 1 1 ex z] = some (slV q (n + 1) z, H) ∧ WF H ∧ σ.next ≤ H.next ∧ σ.next ≤ q ∧ H.m.get q = some (.cells (xs ++ ys) false 0 []) ∧ ∀ b x, σ.m.get b = some x → (n ≠ 0 → b ≠ ba) → H.m.get b = some x := by
  cases n with
  | zero =>
    have : xs = [] := List.eq_nil_of_length_eq_zero (by omega)
    subst this
    exact ⟨_, _, app_first (ex := ex) h hy hc, wf_push hW _, by rw [next_push]; omega, Nat.le_refl _, get_push_same _ _, fun b x hb _ => keep_push hW (Nat.le_refl _) (fun _ _ k => k) b x hb⟩
  | succ m =>
    have hb := hA (by omega)
    have := wf_lt hW hb
    refine ⟨σ.next, ⟨(σ.m.del ba).set σ.next (.cells (xs ++ ys) false 0 []), σ.next + 1⟩, app_next (ex := ex) (n := m + 1) h hy hc hb hx (by omega) (by omega) ho, wf_move hW, by show σ.next ≤ σ.next + 1; omega, Nat.le_refl _, ?_, fun b x hb hne => ?_⟩
    · show ((σ.m.del ba).set σ.next _).get σ.next = _
      rw [get_move, if_pos rfl]
    · have := wf_lt hW hb
      show ((σ.m.del ba).set σ.next _).get b = some x
      rw [get_move, if_neg (by omega), if_neg (Ne.symm (hne (by omega)))]
      exact hb
/-- the numbers of the newlines -/
def nlIdx : Nat → List (Int × Nat) → List Nat
  | _, [] => []
  | i, r :: l => if r.1 = 10 then i :: nlIdx (i + 1) l else nlIdx (i + 1) l
theorem nlIdx_app : ∀ (l : List (Int × Nat)) (i : Nat) (r : Int × Nat), nlIdx i (l ++ [r]) = nlIdx i l ++ (if r.1 = 10 then [i + l.length] else [])
  | [], i, r => by simp [nlIdx]
  | x :: l, i, r => by
    simp only [List.cons_append, nlIdx, nlIdx_app l (i + 1) r, List.length_cons]
    rw [show i + 1 + l.length = i + (l.length + 1) by omega]
    by_cases h : x.1 = 10
    · simp [h]
    · simp [h]
theorem nlIdx_len : ∀ (i : Nat) (l : List (Int × Nat)), (nlIdx i l).length ≤ l.length
  | _, [] => Nat.le_refl _
  | i, r :: l => by
    have := nlIdx_len (i + 1) l
    simp only [nlIdx]
    split <;> simp only [List.length_cons] <;> omega
theorem intsAV_app (l : List Nat) (a : Nat) : intsAV (l ++ [a]) = intsAV l ++ [.int .i64 (a : Nat)] := by simp [intsAV]
/-- the table that is made -/
structure PlH (σ τ : AHeap) (T : Nat) (A N : List Nat) (pb lb : Nat) : Prop where
  wf : WF τ
  nx : T < τ.next
  tb : τ.m.get T = some (.cells [slV pb A.length 1, slV lb N.length 1] false 0 [])
  p : A.length ≠ 0 → T < pb ∧ τ.m.get pb = some (.cells (intsAV A) false 0 [])
  n : N.length ≠ 0 → T < lb ∧ τ.m.get lb = some (.cells (intsAV N) false 0 [])
  d : A.length ≠ 0 → N.length ≠ 0 → pb ≠ lb
  keep : ∀ b x, σ.m.get b = some x → τ.m.get b = some x
theorem plH_mono {σ τ H : AHeap} {T pb lb : Nat} {A N : List Nat} (h : PlH σ τ T A N pb lb) (hw : WF H) (hn : τ.next ≤ H.next) (hk : ∀ b x, τ.m.get b = some x → H.m.get b = some x) : PlH σ H T A N pb lb :=
  ⟨hw, by have := h.nx; omega, hk _ _ h.tb, fun e => ⟨(h.p e).1, hk _ _ (h.p e).2⟩, fun e => ⟨(h.n e).1, hk _ _ (h.n e).2⟩, h.d, fun b x hb => hk _ _ (h.keep b x hb)⟩
theorem plH_p {σ τ H : AHeap} {T pb lb q : Nat} {A N : List Nat} {a : Nat} (h : PlH σ τ T A N pb lb) (hσ : ∀ b x, σ.m.get b = some x → b < T) (hw : WF H) (hn : τ.next ≤ H.next) (hq : τ.next ≤ q) (hg : H.m.get q = some (.cells (intsAV A ++ [.int .i64 (a : Nat)]) false 0 []))
    (hk : ∀ b x, τ.m.get b = some x → (A.length ≠ 0 → b ≠ pb) → H.m.get b = some x) : PlH σ (H.put T (.cells [slV q (A.length + 1) 1, slV lb N.length 1] false 0 []) []) T (A ++ [a]) N q lb := by
  have hT : H.m.get T = some (.cells [slV pb A.length 1, slV lb N.length 1] false 0 []) := hk _ _ h.tb fun e => by have := (h.p e).1; omega
  have hnx := h.nx
  refine ⟨wf_put hw hT, by rw [next_put]; omega, by rw [get_put_same, List.length_append]; rfl, fun _ => ⟨by omega, by rw [get_put_ne (by omega), intsAV_app]; exact hg⟩, fun e => ⟨(h.n e).1, ?_⟩, fun _ e => ?_, fun b x hb => ?_⟩
  · rw [get_put_ne (by have := (h.n e).1; omega)]
    exact hk _ _ (h.n e).2 fun e2 => Ne.symm (h.d e2 e)
  · have := wf_lt h.wf (h.n e).2; omega
  · have := hσ b x hb
    rw [get_put_ne (by omega)]
    exact hk _ _ (h.keep b x hb) fun e => by have := (h.p e).1; omega
theorem plH_n {σ τ H : AHeap} {T pb lb q : Nat} {A N : List Nat} {a : Nat} (h : PlH σ τ T A N pb lb) (hσ : ∀ b x, σ.m.get b = some x → b < T) (hw : WF H) (hn : τ.next ≤ H.next) (hq : τ.next ≤ q) (hg : H.m.get q = some (.cells (intsAV N ++ [.int .i64 (a : Nat)]) false 0 []))
    (hk : ∀ b x, τ.m.get b = some x → (N.length ≠ 0 → b ≠ lb) → H.m.get b = some x) : PlH σ (H.put T (.cells [slV pb A.length 1, slV q (N.length + 1) 1] false 0 []) []) T A (N ++ [a]) pb q := by
  have hT : H.m.get T = some (.cells [slV pb A.length 1, slV lb N.length 1] false 0 []) := hk _ _ h.tb fun e => by have := (h.n e).1; omega
  have hnx := h.nx
  refine ⟨wf_put hw hT, by rw [next_put]; omega, by rw [get_put_same, List.length_append]; rfl, fun e => ⟨(h.p e).1, ?_⟩, fun _ => ⟨by omega, by rw [get_put_ne (by omega), intsAV_app]; exact hg⟩, fun e _ => ?_, fun b x hb => ?_⟩
  · rw [get_put_ne (by have := (h.p e).1; omega)]
    exact hk _ _ (h.p e).2 fun e2 => h.d e e2
  · have := wf_lt h.wf (h.p e).2; omega
  · have := hσ b x hb
    rw [get_put_ne (by omega)]
    exact hk _ _ (h.keep b x hb) fun e => by have := (h.n e).1; omega
end Go.Am
namespace Go.Proofs.YtophnlmdcidolaaDoor
open Go Go.Am
set_option maxHeartbeats 8000000
set_option maxRecDepth 100000

theorem slTy59 : SlTy Tryd.prog 59 1 := ⟨3, (Tryd.prog.info? 3).get (by kernel_rfl), _, Tryd.underlying59, (Option.some_get _).symm, by kernel_rfl, Nat.le_of_ble_eq_true (by kernel_rfl), zo3, by kernel_rfl, by decide⟩
@[go_sem] theorem bs59 (σ : AHeap) (x : Int) : aBuildSlice Tryd.prog σ 59 1 [(0, .int .i64 x)] = some (.slice σ.next 0 1 1 true 1, σ.push (.cells [.int .i64 x] false 0 [])) := by kernel_rfl

theorem f14_tr {σ : AHeap} {ib : Nat} (R : List (Int × Nat)) (hI : R ≠ [] → σ.m.get ib = some (.cells (flatR R) false 0 [])) (hl : R.length ≤ 900000) :
    Tr Tryd.prog 14 [slV ib R.length 2] σ fun v σ' => v = .ptr σ.next 0 ∧ ∃ pb lb, PlH σ σ' σ.next (R.map (·.2)) (nlIdx 0 R) pb lb := by
  refine Tr.wf fun hW => ?_
  refine sk_body (m := 41) Tryd.func14 rfl (by decide) rfl ?_
  have hσ : ∀ b x, σ.m.get b = some x → b < σ.next := fun b x h => wf_lt hW h
  have i0 : PlH σ (σ.push (.cells [.nilslice, .nilslice] false 0 [])) σ.next [] [] 0 0 :=
    ⟨wf_push hW _, by rw [next_push]; omega, get_push_same _ _, fun e => absurd rfl e, fun e => absurd rfl e, fun e => absurd rfl e, keep_push hW (Nat.le_refl _) fun _ _ k => k⟩
  repeat (first
    | refine sk_len (b := ib) (m := R.length) (z := 2) Tryd.underlying29 rfl (by first | (simp only [go_sem, Nat.reduceLT, Nat.reduceLeDiff, Nat.reduceEqDiff, Nat.reduceAdd, Nat.reduceSub, Nat.reduceMul, reduceIte, reduceCtorEq] <;> rfl) | fail) ?_
    | refine sk_seq ?_
    | refine sk_region ?_
    | refine sk_ops_nil ?_
    | refine sk_draw_nil ?_
    | refine sk_block ?_
    | refine sk_blk ?_
    | refine sk_skip ?_
    | refine sk_exit rfl ?_
    | refine sk_draw (id := 5) [0, 1, 2, 3, 4, 5, 6, 7, 8, 9, 10, 11] mixed (by kernel_rfl) ?_
    | ((first | (apply sk_r; rfl; rfl) | (apply sk_w; rfl; rfl) | (apply sk_i; rfl) | (apply sk_g; rfl; rfl) | (apply sk_dr; rfl; rfl; rfl) | (apply sk_dg; rfl; rfl; rfl; rfl; rfl) | apply drd_i | (apply sk_dnr (i := 7) (fl := [4, 3, 2, 1, 0]); rfl; rfl; decide +kernel; rfl; rfl) | (apply sk_dnw (i := 7) (fl := [4, 3, 2, 1, 0]); rfl; rfl; decide +kernel; rfl; rfl) | (apply sk_dnr (i := 8) (fl := [0]); rfl; rfl; decide +kernel; rfl; rfl) | (apply sk_dnw (i := 8) (fl := [0]); rfl; rfl; decide +kernel; rfl; rfl) | (apply sk_dnr (i := 11) (fl := []); rfl; rfl; decide +kernel; rfl; rfl) | (apply sk_dnw (i := 11) (fl := []); rfl; rfl; decide +kernel; rfl; rfl)); (simp only [go_sem, Nat.reduceLT, Nat.reduceLeDiff, Nat.reduceEqDiff, Nat.reduceAdd, Nat.reduceSub, Nat.reduceMul, reduceIte, reduceCtorEq] <;> rfl); (first | refine sk_id ?_ | refine cs_t ?_ | refine cs_f ?_ | refine gs_t rfl ?_ | refine gs_f rfl ?_ | ((repeat (first | exact trivial | ((first | (apply redos_r; rfl; rfl) | (apply redos_g; rfl; rfl; rfl; rfl)); (simp only [go_sem, Nat.reduceLT, Nat.reduceLeDiff, Nat.reduceEqDiff, Nat.reduceAdd, Nat.reduceSub, Nat.reduceMul, reduceIte, reduceCtorEq] <;> rfl)) | (apply redos_s; rfl; rfl; rfl; (simp only [go_sem, Nat.reduceLT, Nat.reduceLeDiff, Nat.reduceEqDiff, Nat.reduceAdd, Nat.reduceSub, Nat.reduceMul, reduceIte, reduceCtorEq] <;> rfl)))); refine sk_id ?_))))
  refine sk_loop (fun m fr σ' => ∃ i pb lb, m = R.length - i ∧ i ≤ R.length ∧ PlH σ σ' σ.next ((R.take i).map (·.2)) (nlIdx 0 (R.take i)) pb lb ∧ fget fr 3 = .ptr σ.next 0 ∧ fget fr 8 = slV ib R.length 2 ∧ fget fr 9 = .int .i64 (R.length : Nat) ∧ fget fr 10 = .int .i64 (i : Nat)) _
    ⟨0, 0, 0, rfl, Nat.zero_le _, i0, (by first | (simp only [go_sem, Nat.reduceLT, Nat.reduceLeDiff, Nat.reduceEqDiff, Nat.reduceAdd, Nat.reduceSub, Nat.reduceMul, reduceIte, reduceCtorEq] <;> rfl) | fail), (by first | (simp only [go_sem, Nat.reduceLT, Nat.reduceLeDiff, Nat.reduceEqDiff, Nat.reduceAdd, Nat.reduceSub, Nat.reduceMul, reduceIte, reduceCtorEq] <;> rfl) | fail), (by first | (simp only [go_sem, Nat.reduceLT, Nat.reduceLeDiff, Nat.reduceEqDiff, Nat.reduceAdd, Nat.reduceSub, Nat.reduceMul, reduceIte, reduceCtorEq] <;> rfl) | fail), (by first | (simp only [go_sem, Nat.reduceLT, Nat.reduceLeDiff, Nat.reduceEqDiff, Nat.reduceAdd, Nat.reduceSub, Nat.reduceMul, reduceIte, reduceCtorEq] <;> rfl) | fail)⟩ ?_
  rintro _ fr τ ⟨i, pb, lb, rfl, hi, hP, h3, h8, h9, h10⟩
  by_cases hil : i < R.length
  · obtain ⟨r, hr⟩ : ∃ r, R[i]? = some r := ⟨_, List.getElem?_eq_getElem hil⟩
    obtain ⟨v, p⟩ := r
    have hne : R ≠ [] := by intro e; rw [e] at hil; simp at hil
    rw [slV_some (by omega)] at h8
    have hib := hP.keep _ _ (hI hne)
    have e1 : decide ((i : Int) < (R.length : Int)) = true := decide_eq_true (by omega)
    have e2 : (0 : Int) ≤ (i : Int) := by omega
    have e3 : (i : Int) < (R.length : Int) := by omega
    have e4 : IntKind.wrap .i64 ((i : Int) + 1) = ((i + 1 : Nat) : Int) := wrap_i64 (by omega) (by omega)
    have e5 := sub_flatR hr
    simp only at e5
    have hAl : ((R.take i).map (·.2)).length = i := by rw [List.length_map, List.length_take]; omega
    have hNl : (nlIdx 0 (R.take i)).length ≤ i := Nat.le_trans (nlIdx_len _ _) (by rw [List.length_take]; omega)
    have eA : (R.take (i + 1)).map (·.2) = (R.take i).map (·.2) ++ [p] := by rw [List.take_succ, hr, List.map_append]; rfl
    have eN : nlIdx 0 (R.take (i + 1)) = nlIdx 0 (R.take i) ++ (if v = 10 then [i] else []) := by
      rw [List.take_succ, hr]
      show nlIdx 0 (R.take i ++ [(v, p)]) = _
      rw [nlIdx_app, List.length_take, Nat.min_eq_left (by omega), Nat.zero_add]
    generalize (R.take i).map (·.2) = A at *
    generalize nlIdx 0 (R.take i) = N at *
    have htb := hP.tb
    have hnx := hP.nx
    have P1 : PlH σ ((τ.push (.cells [.int .i64 v, .int .i64 (p : Nat)] false 0 [])).push (.cells [.int .i64 (p : Nat)] false 0 [])) σ.next A N pb lb :=
      plH_mono hP (wf_push (wf_push hP.wf _) _) (by simp only [next_push]; omega) (keep_push hP.wf (by simp only [next_push]; omega) (keep_push hP.wf (Nat.le_refl _) fun _ _ k => k))
    have g1 : ∀ X, (τ.push X).m.get σ.next = some (.cells [slV pb A.length 1, slV lb N.length 1] false 0 []) := fun X => by rw [get_push, if_neg (by omega)]; exact htb
    have g2 : ∀ X Y, ((τ.push X).push Y).m.get σ.next = some (.cells [slV pb A.length 1, slV lb N.length 1] false 0 []) := fun X Y => by rw [get_push, if_neg (by rw [next_push]; omega)]; exact g1 X
    have g3 : ∀ X Y, ((τ.push X).push Y).m.get τ.next = some X := fun X Y => by rw [get_push, if_neg (by rw [next_push]; omega), get_push_same]
    obtain ⟨q, H, a1, a2, a3, a4, a5, a6⟩ := app_one (P := Tryd.prog) (ex := true) (n := A.length) (ba := pb) slTy59 P1.wf (by rw [intsAV_len, Nat.mul_one]) (fun e => (P1.p e).2) rfl rfl (get_push_same (τ.push (.cells [.int .i64 v, .int .i64 (p : Nat)] false 0 [])) (.cells [.int .i64 (p : Nat)] false 0 [])) (by omega)
    simp only [next_push] at a1 a3 a4
    have gH : H.m.get σ.next = some (.cells [slV pb A.length 1, slV lb N.length 1] false 0 []) := a6 _ _ (g2 _ _) fun e => by have := (hP.p e).1; omega
    have gC : H.m.get τ.next = some (.cells [.int .i64 v, .int .i64 (p : Nat)] false 0 []) := a6 _ _ (g3 _ _) fun e => by have := wf_lt hP.wf (hP.p e).2; omega
    have gC2 : ∀ X, (H.put σ.next X []).m.get τ.next = some (.cells [.int .i64 v, .int .i64 (p : Nat)] false 0 []) := fun X => by rw [get_put_ne (by omega)]; exact gC
    have Z := plH_p (a := p) P1 hσ a2 (by simp only [next_push]; exact a3) (by simp only [next_push]; exact a4) a5 a6
    by_cases hv : v = 10
    · subst hv
      have q1 : ((10 : Int) == 10) = true := rfl
      have Z1 := plH_mono Z (wf_push Z.wf (.cells [.int .i64 (i : Nat)] false 0 [])) (by rw [next_push]; omega) (keep_push Z.wf (Nat.le_refl _) fun _ _ k => k)
      obtain ⟨q2, H2, b1, b2, b3, b4, b5, b6⟩ := app_one (P := Tryd.prog) (ex := true) (n := N.length) (ba := lb) slTy59 Z1.wf (by rw [intsAV_len, Nat.mul_one]) (fun e => (Z1.n e).2) rfl rfl (get_push_same (H.put σ.next _ []) (.cells [.int .i64 (i : Nat)] false 0 [])) (by omega)
      simp only [next_put] at b1
      have W := plH_n (a := i) Z1 hσ b2 b3 b4 b5 b6
      rw [List.length_append] at W
      have gH2 := Z1.tb
      rw [List.length_append] at gH2
      have gH3 : H2.m.get σ.next = _ := b6 _ _ gH2 fun e => by have := (Z1.n e).1; omega
      repeat (first
        | refine sk_seq ?_
        | refine sk_region ?_
        | refine sk_ops_nil ?_
        | refine sk_draw_nil ?_
        | refine sk_block ?_
        | refine sk_blk ?_
        | refine sk_skip ?_
        | refine sk_exit rfl ?_
        | refine sk_draw (id := 5) [0, 1, 2, 3, 4, 5, 6, 7, 8, 9, 10, 11] mixed (by kernel_rfl) ?_
        | ((first | (apply sk_r; rfl; rfl) | (apply sk_w; rfl; rfl) | (apply sk_i; rfl) | (apply sk_g; rfl; rfl) | (apply sk_dr; rfl; rfl; rfl) | (apply sk_dg; rfl; rfl; rfl; rfl; rfl) | apply drd_i | (apply sk_dnr (i := 7) (fl := [4, 3, 2, 1, 0]); rfl; rfl; decide +kernel; rfl; rfl) | (apply sk_dnw (i := 7) (fl := [4, 3, 2, 1, 0]); rfl; rfl; decide +kernel; rfl; rfl) | (apply sk_dnr (i := 8) (fl := [0]); rfl; rfl; decide +kernel; rfl; rfl) | (apply sk_dnw (i := 8) (fl := [0]); rfl; rfl; decide +kernel; rfl; rfl) | (apply sk_dnr (i := 11) (fl := []); rfl; rfl; decide +kernel; rfl; rfl) | (apply sk_dnw (i := 11) (fl := []); rfl; rfl; decide +kernel; rfl; rfl)); (simp only [go_sem, Nat.reduceLT, Nat.reduceLeDiff, Nat.reduceEqDiff, Nat.reduceAdd, Nat.reduceSub, Nat.reduceMul, reduceIte, reduceCtorEq, h3, h8, h9, h10, hib, e1, e2, e3, e4, e5, g1, g2, g3, gH, gC, gC2, a1, b1, gH2, gH3, q1, and_self] <;> rfl); (first | refine sk_id ?_ | refine cs_t ?_ | refine cs_f ?_ | refine gs_t rfl ?_ | refine gs_f rfl ?_ | ((repeat (first | exact trivial | ((first | (apply redos_r; rfl; rfl) | (apply redos_g; rfl; rfl; rfl; rfl)); (simp only [go_sem, Nat.reduceLT, Nat.reduceLeDiff, Nat.reduceEqDiff, Nat.reduceAdd, Nat.reduceSub, Nat.reduceMul, reduceIte, reduceCtorEq, h3, h8, h9, h10, hib, e1, e2, e3, e4, e5, g1, g2, g3, gH, gC, gC2, a1, b1, gH2, gH3, q1, and_self] <;> rfl)) | (apply redos_s; rfl; rfl; rfl; (simp only [go_sem, Nat.reduceLT, Nat.reduceLeDiff, Nat.reduceEqDiff, Nat.reduceAdd, Nat.reduceSub, Nat.reduceMul, reduceIte, reduceCtorEq, h3, h8, h9, h10, hib, e1, e2, e3, e4, e5, g1, g2, g3, gH, gC, gC2, a1, b1, gH2, gH3, q1, and_self] <;> rfl)))); refine sk_id ?_))))
      exact sk_stop ⟨R.length - (i + 1), by omega, i + 1, q, q2, rfl, by omega, (by rw [eA, eN, if_pos rfl]; exact W), (by first | (simp only [go_sem, Nat.reduceLT, Nat.reduceLeDiff, Nat.reduceEqDiff, Nat.reduceAdd, Nat.reduceSub, Nat.reduceMul, reduceIte, reduceCtorEq, h3] <;> rfl) | fail), (by rw [slV_some (n := R.length) (by omega)]; exact (by first | (simp only [go_sem, Nat.reduceLT, Nat.reduceLeDiff, Nat.reduceEqDiff, Nat.reduceAdd, Nat.reduceSub, Nat.reduceMul, reduceIte, reduceCtorEq, h8] <;> rfl) | fail)), (by first | (simp only [go_sem, Nat.reduceLT, Nat.reduceLeDiff, Nat.reduceEqDiff, Nat.reduceAdd, Nat.reduceSub, Nat.reduceMul, reduceIte, reduceCtorEq, h9] <;> rfl) | fail), (by first | (simp only [go_sem, Nat.reduceLT, Nat.reduceLeDiff, Nat.reduceEqDiff, Nat.reduceAdd, Nat.reduceSub, Nat.reduceMul, reduceIte, reduceCtorEq] <;> rfl) | fail)⟩
    · have q1 : (v == 10) = false := by simp [hv]
      repeat (first
        | refine sk_seq ?_
        | refine sk_region ?_
        | refine sk_ops_nil ?_
        | refine sk_draw_nil ?_
        | refine sk_block ?_
        | refine sk_blk ?_
        | refine sk_skip ?_
        | refine sk_exit rfl ?_
        | refine sk_draw (id := 5) [0, 1, 2, 3, 4, 5, 6, 7, 8, 9, 10, 11] mixed (by kernel_rfl) ?_
        | ((first | (apply sk_r; rfl; rfl) | (apply sk_w; rfl; rfl) | (apply sk_i; rfl) | (apply sk_g; rfl; rfl) | (apply sk_dr; rfl; rfl; rfl) | (apply sk_dg; rfl; rfl; rfl; rfl; rfl) | apply drd_i | (apply sk_dnr (i := 7) (fl := [4, 3, 2, 1, 0]); rfl; rfl; decide +kernel; rfl; rfl) | (apply sk_dnw (i := 7) (fl := [4, 3, 2, 1, 0]); rfl; rfl; decide +kernel; rfl; rfl) | (apply sk_dnr (i := 8) (fl := [0]); rfl; rfl; decide +kernel; rfl; rfl) | (apply sk_dnw (i := 8) (fl := [0]); rfl; rfl; decide +kernel; rfl; rfl) | (apply sk_dnr (i := 11) (fl := []); rfl; rfl; decide +kernel; rfl; rfl) | (apply sk_dnw (i := 11) (fl := []); rfl; rfl; decide +kernel; rfl; rfl)); (simp only [go_sem, Nat.reduceLT, Nat.reduceLeDiff, Nat.reduceEqDiff, Nat.reduceAdd, Nat.reduceSub, Nat.reduceMul, reduceIte, reduceCtorEq, h3, h8, h9, h10, hib, e1, e2, e3, e4, e5, g1, g2, g3, gH, gC, gC2, a1, q1, and_self] <;> rfl); (first | refine sk_id ?_ | refine cs_t ?_ | refine cs_f ?_ | refine gs_t rfl ?_ | refine gs_f rfl ?_ | ((repeat (first | exact trivial | ((first | (apply redos_r; rfl; rfl) | (apply redos_g; rfl; rfl; rfl; rfl)); (simp only [go_sem, Nat.reduceLT, Nat.reduceLeDiff, Nat.reduceEqDiff, Nat.reduceAdd, Nat.reduceSub, Nat.reduceMul, reduceIte, reduceCtorEq, h3, h8, h9, h10, hib, e1, e2, e3, e4, e5, g1, g2, g3, gH, gC, gC2, a1, q1, and_self] <;> rfl)) | (apply redos_s; rfl; rfl; rfl; (simp only [go_sem, Nat.reduceLT, Nat.reduceLeDiff, Nat.reduceEqDiff, Nat.reduceAdd, Nat.reduceSub, Nat.reduceMul, reduceIte, reduceCtorEq, h3, h8, h9, h10, hib, e1, e2, e3, e4, e5, g1, g2, g3, gH, gC, gC2, a1, q1, and_self] <;> rfl)))); refine sk_id ?_))))
      exact sk_stop ⟨R.length - (i + 1), by omega, i + 1, q, lb, rfl, by omega, (by rw [eA, eN, if_neg hv, List.append_nil]; exact Z), (by first | (simp only [go_sem, Nat.reduceLT, Nat.reduceLeDiff, Nat.reduceEqDiff, Nat.reduceAdd, Nat.reduceSub, Nat.reduceMul, reduceIte, reduceCtorEq, h3] <;> rfl) | fail), (by rw [slV_some (n := R.length) (by omega)]; exact (by first | (simp only [go_sem, Nat.reduceLT, Nat.reduceLeDiff, Nat.reduceEqDiff, Nat.reduceAdd, Nat.reduceSub, Nat.reduceMul, reduceIte, reduceCtorEq, h8] <;> rfl) | fail)), (by first | (simp only [go_sem, Nat.reduceLT, Nat.reduceLeDiff, Nat.reduceEqDiff, Nat.reduceAdd, Nat.reduceSub, Nat.reduceMul, reduceIte, reduceCtorEq, h9] <;> rfl) | fail), (by first | (simp only [go_sem, Nat.reduceLT, Nat.reduceLeDiff, Nat.reduceEqDiff, Nat.reduceAdd, Nat.reduceSub, Nat.reduceMul, reduceIte, reduceCtorEq] <;> rfl) | fail)⟩
  · have e1 : decide ((i : Int) < (R.length : Int)) = false := decide_eq_false (by omega)
    rw [List.take_of_length_le (by omega)] at hP
    repeat (first
      | refine sk_seq ?_
      | refine sk_region ?_
      | refine sk_ops_nil ?_
      | refine sk_draw_nil ?_
      | refine sk_block ?_
      | refine sk_blk ?_
      | refine sk_skip ?_
      | refine sk_exit rfl ?_
      | refine sk_draw (id := 5) [0, 1, 2, 3, 4, 5, 6, 7, 8, 9, 10, 11] mixed (by kernel_rfl) ?_
      | ((first | (apply sk_r; rfl; rfl) | (apply sk_w; rfl; rfl) | (apply sk_i; rfl) | (apply sk_g; rfl; rfl) | (apply sk_dr; rfl; rfl; rfl) | (apply sk_dg; rfl; rfl; rfl; rfl; rfl) | apply drd_i | (apply sk_dnr (i := 7) (fl := [4, 3, 2, 1, 0]); rfl; rfl; decide +kernel; rfl; rfl) | (apply sk_dnw (i := 7) (fl := [4, 3, 2, 1, 0]); rfl; rfl; decide +kernel; rfl; rfl) | (apply sk_dnr (i := 8) (fl := [0]); rfl; rfl; decide +kernel; rfl; rfl) | (apply sk_dnw (i := 8) (fl := [0]); rfl; rfl; decide +kernel; rfl; rfl) | (apply sk_dnr (i := 11) (fl := []); rfl; rfl; decide +kernel; rfl; rfl) | (apply sk_dnw (i := 11) (fl := []); rfl; rfl; decide +kernel; rfl; rfl)); (simp only [go_sem, Nat.reduceLT, Nat.reduceLeDiff, Nat.reduceEqDiff, Nat.reduceAdd, Nat.reduceSub, Nat.reduceMul, reduceIte, reduceCtorEq, h3, h8, h9, h10, e1] <;> rfl); (first | refine sk_id ?_ | refine cs_t ?_ | refine cs_f ?_ | refine gs_t rfl ?_ | refine gs_f rfl ?_ | ((repeat (first | exact trivial | ((first | (apply redos_r; rfl; rfl) | (apply redos_g; rfl; rfl; rfl; rfl)); (simp only [go_sem, Nat.reduceLT, Nat.reduceLeDiff, Nat.reduceEqDiff, Nat.reduceAdd, Nat.reduceSub, Nat.reduceMul, reduceIte, reduceCtorEq, h3, h8, h9, h10, e1] <;> rfl)) | (apply redos_s; rfl; rfl; rfl; (simp only [go_sem, Nat.reduceLT, Nat.reduceLeDiff, Nat.reduceEqDiff, Nat.reduceAdd, Nat.reduceSub, Nat.reduceMul, reduceIte, reduceCtorEq, h3, h8, h9, h10, e1] <;> rfl)))); refine sk_id ?_))))
    exact sk_ret ⟨_, (by first | (simp only [aRet, Tryd.results14, aResults, aResult, go_sem, Nat.reduceLT, Nat.reduceLeDiff, Nat.reduceEqDiff, Nat.reduceAdd, Nat.reduceSub, Nat.reduceMul, reduceIte, reduceCtorEq] <;> rfl) | fail), rfl, pb, lb, hP⟩
end Go.Proofs.YtophnlmdcidolaaDoor
