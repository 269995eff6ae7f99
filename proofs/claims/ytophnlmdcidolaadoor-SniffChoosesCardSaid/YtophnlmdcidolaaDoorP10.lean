import Derived.Test.YtophnlmdcidolaaDoorP8
set_option linter.all false
namespace Go.Am
abbrev W7 : List Nat := [99, 104, 97, 114, 115, 101, 116]
abbrev S6 : List Nat := [9, 10, 12, 13, 32, 59]
/-- what stands behind 'charset=' -/
def csGo : Nat → List Nat → Option (List Nat)
  | 0, _ => none
  | f + 1, l => if indexN (l.map low) W7 < 0 then none else
    if pre [61] ((l.drop ((indexN (l.map low) W7).toNat + 7)).dropWhile (isIn B5)) then some ((((l.drop ((indexN (l.map low) W7).toNat + 7)).dropWhile (isIn B5)).drop 1).dropWhile (isIn B5))
    else csGo f ((l.drop ((indexN (l.map low) W7).toNat + 7)).dropWhile (isIn B5))
def csName : List Nat → Option (List Nat)
  | [] => none
  | q :: t => if q = 34 ∨ q = 39 then (if indexN t [q] = -1 then none else some (t.take (indexN t [q]).toNat))
    else if firstIn S6 (q :: t) ≥ 0 then some ((q :: t).take (firstIn S6 (q :: t)).toNat) else some (q :: t)
def charsetOf (l : List Nat) : Option (List Nat) := match csGo (l.length + 1) l with
  | none => none
  | some r => csName r
def nameAV : Option (List Nat) → AV
  | none => .tuple [.str [], .bool false]
  | some n => .tuple [.str n, .bool true]
theorem csName_quote {q : Nat} {t : List Nat} (h : q = 34 ∨ q = 39) : csName (q :: t) = if indexN t [q] = -1 then none else some (t.take (indexN t [q]).toNat) := by
  show (if q = 34 ∨ q = 39 then _ else _) = _
  rw [if_pos h]
theorem csName_plain {q : Nat} {t : List Nat} (h : ¬(q = 34 ∨ q = 39)) : csName (q :: t) = if firstIn S6 (q :: t) ≥ 0 then some ((q :: t).take (firstIn S6 (q :: t)).toNat) else some (q :: t) := by
  show (if q = 34 ∨ q = 39 then _ else _) = _
  rw [if_neg h]
theorem dw_sub {p : Nat → Bool} {l : List Nat} {c : Nat} (h : c ∈ l.dropWhile p) : c ∈ l := (List.dropWhile_sublist p).subset h
theorem dw_le (p : Nat → Bool) (l : List Nat) : (l.dropWhile p).length ≤ l.length := (List.dropWhile_sublist p).length_le
theorem csGo_none {f : Nat} {l : List Nat} (h : indexN (l.map low) W7 = -1) : csGo (f + 1) l = none := by
  unfold csGo; rw [h]; rfl
theorem csGo_some {f i : Nat} {l : List Nat} (h : indexN (l.map low) W7 = (i : Int)) : csGo (f + 1) l = if pre [61] ((l.drop (i + 7)).dropWhile (isIn B5)) then some ((((l.drop (i + 7)).dropWhile (isIn B5)).drop 1).dropWhile (isIn B5)) else csGo f ((l.drop (i + 7)).dropWhile (isIn B5)) := by
  rw [csGo, h, if_neg (by omega)]
  simp
theorem csGo_sub : ∀ {f : Nat} {l r : List Nat}, csGo f l = some r → (∀ c ∈ r, c ∈ l) ∧ r.length ≤ l.length
  | 0, _, _, h => by simp [csGo] at h
  | f + 1, l, r, h => by
    rcases indexN_spec (l.map low) W7 with ⟨h1, _⟩ | ⟨i, h1, _⟩
    · rw [csGo_none h1] at h; simp at h
    · rw [csGo_some h1] at h
      have hA : ∀ c ∈ (l.drop (i + 7)).dropWhile (isIn B5), c ∈ l := fun c hc => List.mem_of_mem_drop (dw_sub hc)
      have hB : ((l.drop (i + 7)).dropWhile (isIn B5)).length ≤ l.length := Nat.le_trans (dw_le _ _) (by rw [List.length_drop]; omega)
      split at h
      · simp only [Option.some.injEq] at h
        subst h
        exact ⟨fun c hc => hA c (List.mem_of_mem_drop (dw_sub hc)), Nat.le_trans (dw_le _ _) (by rw [List.length_drop]; omega)⟩
      · have ih := csGo_sub h
        exact ⟨fun c hc => hA c (ih.1 c hc), Nat.le_trans ih.2 hB⟩
theorem firstIn_le (S d : List Nat) : firstIn S d = -1 ∨ ∃ i : Nat, firstIn S d = (i : Int) ∧ i < d.length := by
  unfold firstIn
  split
  · rename_i h; exact .inr ⟨_, rfl, h⟩
  · exact .inl rfl
end Go.Am
namespace Go.Proofs.YtophnlmdcidolaaDoor
open Go Go.Am
set_option maxHeartbeats 8000000
set_option maxRecDepth 100000
theorem f50_tr (l : List Nat) (hd : ∀ c ∈ l, c < 256) (hn : l.length ≤ 1000000) {σ : AHeap} {m : Int} (hm : σ.m.get 0 = some (.cells [.int .i64 m] true 0 [])) :
    Tr Tryd.prog 50 [.str l] σ fun v σ' => v = nameAV (charsetOf l) ∧ σ' = σ := by
  refine Tr.wf fun hW => Tr.pure ?_
  refine sk_body (m := 63) Tryd.func50 rfl (by decide) rfl ?_
  have kW : bytesOf { data := #[99, 104, 97, 114, 115, 101, 116] } = W7 := rfl
  have kB : bytesOf { data := #[9, 10, 12, 13, 32] } = B5 := rfl
  have kE : bytesOf { data := #[61] } = [61] := rfl
  have kS : bytesOf { data := #[9, 10, 12, 13, 32, 59] } = S6 := rfl
  have keepσ : ∀ b y, σ.m.get b = some y → σ.m.get b = some y := fun _ _ h => h
  have kp : ∀ (x : ABlock) b y, σ.m.get b = some y → (σ.push x).m.get b = some y := fun x b y h => by rw [get_push, if_neg (by have := wf_lt hW h; omega)]; exact h
  repeat (first
    | refine sk_seq ?_
    | refine sk_region ?_
    | refine sk_ops_nil ?_
    | refine sk_draw_nil ?_
    | refine sk_block ?_
    | refine sk_blk ?_
    | refine sk_skip ?_
    | refine sk_exit rfl ?_
    | refine sk_draw (id := 13) [0, 1, 2, 3, 4, 5, 6, 7, 8, 9, 10, 11, 12] mixed (by kernel_rfl) ?_
    | ((first | (apply sk_r; rfl; rfl) | (apply sk_w; rfl; rfl) | (apply sk_i; rfl) | (apply sk_g; rfl; rfl) | (apply sk_dr; rfl; rfl; rfl) | (apply sk_dg; rfl; rfl; rfl; rfl; rfl) | apply drd_i | (apply sk_dnr (i := 3) (fl := [1, 0]); rfl; rfl; decide +kernel; rfl; rfl) | (apply sk_dnw (i := 3) (fl := [1, 0]); rfl; rfl; decide +kernel; rfl; rfl) | (apply sk_dnr (i := 10) (fl := [9, 8]); rfl; rfl; decide +kernel; rfl; rfl) | (apply sk_dnw (i := 10) (fl := [9, 8]); rfl; rfl; decide +kernel; rfl; rfl) | (apply sk_dnr (i := 11) (fl := [9]); rfl; rfl; decide +kernel; rfl; rfl) | (apply sk_dnw (i := 11) (fl := [9]); rfl; rfl; decide +kernel; rfl; rfl) | (apply sk_dnr (i := 12) (fl := []); rfl; rfl; decide +kernel; rfl; rfl) | (apply sk_dnw (i := 12) (fl := []); rfl; rfl; decide +kernel; rfl; rfl)); (simp only [go_sem, Nat.reduceLT, Nat.reduceLeDiff, Nat.reduceEqDiff, Nat.reduceAdd, Nat.reduceSub, Nat.reduceMul, reduceIte, reduceCtorEq] <;> rfl); (first | refine sk_id ?_ | refine cs_t ?_ | refine cs_f ?_ | refine gs_t rfl ?_ | refine gs_f rfl ?_ | ((repeat (first | exact trivial | ((first | (apply redos_r; rfl; rfl) | (apply redos_g; rfl; rfl; rfl; rfl)); (simp only [go_sem, Nat.reduceLT, Nat.reduceLeDiff, Nat.reduceEqDiff, Nat.reduceAdd, Nat.reduceSub, Nat.reduceMul, reduceIte, reduceCtorEq] <;> rfl)) | (apply redos_s; rfl; rfl; rfl; (simp only [go_sem, Nat.reduceLT, Nat.reduceLeDiff, Nat.reduceEqDiff, Nat.reduceAdd, Nat.reduceSub, Nat.reduceMul, reduceIte, reduceCtorEq] <;> rfl)))); refine sk_id ?_))))
  refine sk_cut (fun fr σ' => σ' = σ ∧ ∃ r, csGo (l.length + 1) l = some r ∧ fget fr 4 = .str r) ?_ ?_
  · refine sk_loop (fun m fr σ' => ∃ f r, m = f ∧ r.length < f ∧ csGo f r = csGo (l.length + 1) l ∧ (∀ c ∈ r, c < 256) ∧ r.length ≤ 1000000 ∧ σ' = σ ∧ fget fr 4 = .str r) _
      ⟨l.length + 1, l, rfl, Nat.lt_succ_self _, rfl, hd, hn, rfl, (by first | (simp only [go_sem, Nat.reduceLT, Nat.reduceLeDiff, Nat.reduceEqDiff, Nat.reduceAdd, Nat.reduceSub, Nat.reduceMul, reduceIte, reduceCtorEq] <;> rfl) | fail)⟩ ?_
    rintro f fr τ ⟨_, r, rfl, hf, hR, hr, hrn, hτ, h4⟩
    rw [hτ]
    obtain ⟨f, rfl⟩ : ∃ g, f = g + 1 := ⟨f - 1, by omega⟩
    have s51 := f51_tr (l := r.map low) (t := W7) hm (by simp; omega)
    rcases indexN_spec (r.map low) W7 with ⟨h1, _⟩ | ⟨i, h1, hi, hp, _⟩
    · have e1 : decide (indexN (r.map low) W7 < 0) = true := by rw [h1]; rfl
      rw [h1] at s51
      have e1 : decide ((-1 : Int) < 0) = true := rfl
      repeat (first
        | refine sk_seq ?_
        | refine sk_region ?_
        | refine sk_ops_nil ?_
        | refine sk_draw_nil ?_
        | refine sk_block ?_
        | refine sk_blk ?_
        | refine sk_skip ?_
        | refine sk_exit rfl ?_
        | refine sk_draw (id := 13) [0, 1, 2, 3, 4, 5, 6, 7, 8, 9, 10, 11, 12] mixed (by kernel_rfl) ?_
        | ((first | (apply sk_r; rfl; rfl) | (apply sk_w; rfl; rfl) | (apply sk_i; rfl) | (apply sk_g; rfl; rfl) | (apply sk_dr; rfl; rfl; rfl) | (apply sk_dg; rfl; rfl; rfl; rfl; rfl) | apply drd_i | (apply sk_dnr (i := 3) (fl := [1, 0]); rfl; rfl; decide +kernel; rfl; rfl) | (apply sk_dnw (i := 3) (fl := [1, 0]); rfl; rfl; decide +kernel; rfl; rfl) | (apply sk_dnr (i := 10) (fl := [9, 8]); rfl; rfl; decide +kernel; rfl; rfl) | (apply sk_dnw (i := 10) (fl := [9, 8]); rfl; rfl; decide +kernel; rfl; rfl) | (apply sk_dnr (i := 11) (fl := [9]); rfl; rfl; decide +kernel; rfl; rfl) | (apply sk_dnw (i := 11) (fl := [9]); rfl; rfl; decide +kernel; rfl; rfl) | (apply sk_dnr (i := 12) (fl := []); rfl; rfl; decide +kernel; rfl; rfl) | (apply sk_dnw (i := 12) (fl := []); rfl; rfl; decide +kernel; rfl; rfl)); (simp only [go_sem, Nat.reduceLT, Nat.reduceLeDiff, Nat.reduceEqDiff, Nat.reduceAdd, Nat.reduceSub, Nat.reduceMul, reduceIte, reduceCtorEq, h4, e1] <;> rfl); (first | refine sk_id ?_ | refine cs_t ?_ | refine cs_f ?_ | refine gs_t rfl ?_ | refine gs_f rfl ?_ | ((repeat (first | exact trivial | ((first | (apply redos_r; rfl; rfl) | (apply redos_g; rfl; rfl; rfl; rfl)); (simp only [go_sem, Nat.reduceLT, Nat.reduceLeDiff, Nat.reduceEqDiff, Nat.reduceAdd, Nat.reduceSub, Nat.reduceMul, reduceIte, reduceCtorEq, h4, e1] <;> rfl)) | (apply redos_s; rfl; rfl; rfl; (simp only [go_sem, Nat.reduceLT, Nat.reduceLeDiff, Nat.reduceEqDiff, Nat.reduceAdd, Nat.reduceSub, Nat.reduceMul, reduceIte, reduceCtorEq, h4, e1] <;> rfl)))); refine sk_id ?_)))
        | ((first | (apply sk_c; rfl; rfl) | (apply sk_dnc (i := 5) (fl := []); rfl; rfl; decide +kernel; rfl)); (simp only [go_sem, Nat.reduceLT, Nat.reduceLeDiff, Nat.reduceEqDiff, Nat.reduceAdd, Nat.reduceSub, Nat.reduceMul, reduceIte, reduceCtorEq, h4, e1] <;> rfl); (first
            | (refine (f32_tr r hr (by omega) _).mono ?_; rintro _ τ2 ⟨rfl, hτ2⟩; rw [hτ2])
            | (refine s51.mono ?_; rintro _ τ2 ⟨rfl, hτ2⟩; rw [hτ2])); (first | refine sk_id ?_ | (refine ⟨?_, ?_⟩; (repeat (first | exact trivial | ((first | (apply redos_r; rfl; rfl) | (apply redos_g; rfl; rfl; rfl; rfl)); (simp only [go_sem, Nat.reduceLT, Nat.reduceLeDiff, Nat.reduceEqDiff, Nat.reduceAdd, Nat.reduceSub, Nat.reduceMul, reduceIte, reduceCtorEq, h4, e1] <;> rfl)) | (apply redos_s; rfl; rfl; rfl; (simp only [go_sem, Nat.reduceLT, Nat.reduceLeDiff, Nat.reduceEqDiff, Nat.reduceAdd, Nat.reduceSub, Nat.reduceMul, reduceIte, reduceCtorEq, h4, e1] <;> rfl)))); refine sk_id ?_))))
      exact sk_cut_ret ⟨_, (by first | (simp only [aRet, Tryd.results50, aResults, aResult, go_sem, Nat.reduceLT, Nat.reduceLeDiff, Nat.reduceEqDiff, Nat.reduceAdd, Nat.reduceSub, Nat.reduceMul, reduceIte, reduceCtorEq] <;> rfl) | fail), rfl, keepσ, by unfold charsetOf; rw [← hR, csGo_none h1]; rfl, rfl⟩
    · rw [h1] at s51
      rw [csGo_some h1] at hR
      have hpl := (pre_take hp).1
      simp only [List.length_drop, List.length_map, List.length_cons, List.length_nil] at hpl
      have e1 : decide ((i : Int) < 0) = false := decide_eq_false (by omega)
      have e2 : IntKind.wrap .i64 ((i : Int) + 7) = ((i + 7 : Nat) : Int) := wrap_i64 (by omega) (by omega)
      have e3 : (0 : Int) ≤ ((i + 7 : Nat) : Int) := by omega
      have e4 : ((i + 7 : Nat) : Int) ≤ (r.length : Int) := by omega
      have hA : ∀ c ∈ r.drop (i + 7), c < 256 := fun c hc => hr c (List.mem_of_mem_drop hc)
      have hAn : (r.drop (i + 7)).length ≤ 1000000 := by rw [List.length_drop]; omega
      have s71 := fun σ => f71_tr (r.drop (i + 7)) hA hAn σ
      have hB : ∀ c ∈ (r.drop (i + 7)).dropWhile (isIn B5), c < 256 := fun c hc => hA c (dw_sub hc)
      have hBn := dw_le (isIn B5) (r.drop (i + 7))
      rw [List.length_drop] at hBn
      generalize (r.drop (i + 7)).dropWhile (isIn B5) = r1 at *
      have s72 := fun σ => f72_tr r1 [61] σ
      cases hq : pre [61] r1
      · rw [hq] at s72 hR
        repeat (first
          | refine sk_seq ?_
          | refine sk_region ?_
          | refine sk_ops_nil ?_
          | refine sk_draw_nil ?_
          | refine sk_block ?_
          | refine sk_blk ?_
          | refine sk_skip ?_
          | refine sk_exit rfl ?_
          | refine sk_draw (id := 13) [0, 1, 2, 3, 4, 5, 6, 7, 8, 9, 10, 11, 12] mixed (by kernel_rfl) ?_
          | ((first | (apply sk_r; rfl; rfl) | (apply sk_w; rfl; rfl) | (apply sk_i; rfl) | (apply sk_g; rfl; rfl) | (apply sk_dr; rfl; rfl; rfl) | (apply sk_dg; rfl; rfl; rfl; rfl; rfl) | apply drd_i | (apply sk_dnr (i := 3) (fl := [1, 0]); rfl; rfl; decide +kernel; rfl; rfl) | (apply sk_dnw (i := 3) (fl := [1, 0]); rfl; rfl; decide +kernel; rfl; rfl) | (apply sk_dnr (i := 10) (fl := [9, 8]); rfl; rfl; decide +kernel; rfl; rfl) | (apply sk_dnw (i := 10) (fl := [9, 8]); rfl; rfl; decide +kernel; rfl; rfl) | (apply sk_dnr (i := 11) (fl := [9]); rfl; rfl; decide +kernel; rfl; rfl) | (apply sk_dnw (i := 11) (fl := [9]); rfl; rfl; decide +kernel; rfl; rfl) | (apply sk_dnr (i := 12) (fl := []); rfl; rfl; decide +kernel; rfl; rfl) | (apply sk_dnw (i := 12) (fl := []); rfl; rfl; decide +kernel; rfl; rfl)); (simp only [go_sem, Nat.reduceLT, Nat.reduceLeDiff, Nat.reduceEqDiff, Nat.reduceAdd, Nat.reduceSub, Nat.reduceMul, reduceIte, reduceCtorEq, h4, e1, e2, e3, e4, and_self, Int.le_refl, List.take_length] <;> rfl); (first | refine sk_id ?_ | refine cs_t ?_ | refine cs_f ?_ | refine gs_t rfl ?_ | refine gs_f rfl ?_ | ((repeat (first | exact trivial | ((first | (apply redos_r; rfl; rfl) | (apply redos_g; rfl; rfl; rfl; rfl)); (simp only [go_sem, Nat.reduceLT, Nat.reduceLeDiff, Nat.reduceEqDiff, Nat.reduceAdd, Nat.reduceSub, Nat.reduceMul, reduceIte, reduceCtorEq, h4, e1, e2, e3, e4, and_self, Int.le_refl, List.take_length] <;> rfl)) | (apply redos_s; rfl; rfl; rfl; (simp only [go_sem, Nat.reduceLT, Nat.reduceLeDiff, Nat.reduceEqDiff, Nat.reduceAdd, Nat.reduceSub, Nat.reduceMul, reduceIte, reduceCtorEq, h4, e1, e2, e3, e4, and_self, Int.le_refl, List.take_length] <;> rfl)))); refine sk_id ?_)))
          | ((first | (apply sk_c; rfl; rfl) | (apply sk_dnc (i := 5) (fl := []); rfl; rfl; decide +kernel; rfl)); (simp only [go_sem, Nat.reduceLT, Nat.reduceLeDiff, Nat.reduceEqDiff, Nat.reduceAdd, Nat.reduceSub, Nat.reduceMul, reduceIte, reduceCtorEq, h4, e1, e2, e3, e4, and_self, Int.le_refl, List.take_length] <;> rfl); (first
              | (refine (f32_tr r hr (by omega) _).mono ?_; rintro _ τ2 ⟨rfl, hτ2⟩; rw [hτ2])
              | (refine s51.mono ?_; rintro _ τ2 ⟨rfl, hτ2⟩; rw [hτ2])
              | (refine (s71 _).mono ?_; rintro _ τ2 ⟨rfl, hτ2⟩; rw [hτ2])
              | (refine (s72 _).mono ?_; rintro _ τ2 ⟨rfl, hτ2⟩; rw [hτ2])); (first | refine sk_id ?_ | (refine ⟨?_, ?_⟩; (repeat (first | exact trivial | ((first | (apply redos_r; rfl; rfl) | (apply redos_g; rfl; rfl; rfl; rfl)); (simp only [go_sem, Nat.reduceLT, Nat.reduceLeDiff, Nat.reduceEqDiff, Nat.reduceAdd, Nat.reduceSub, Nat.reduceMul, reduceIte, reduceCtorEq, h4, e1, e2, e3, e4, and_self, Int.le_refl, List.take_length] <;> rfl)) | (apply redos_s; rfl; rfl; rfl; (simp only [go_sem, Nat.reduceLT, Nat.reduceLeDiff, Nat.reduceEqDiff, Nat.reduceAdd, Nat.reduceSub, Nat.reduceMul, reduceIte, reduceCtorEq, h4, e1, e2, e3, e4, and_self, Int.le_refl, List.take_length] <;> rfl)))); refine sk_id ?_))))
        exact sk_stop ⟨f, by omega, f, r1, rfl, by omega, hR, hB, by omega, rfl, (by first | (simp only [go_sem, Nat.reduceLT, Nat.reduceLeDiff, Nat.reduceEqDiff, Nat.reduceAdd, Nat.reduceSub, Nat.reduceMul, reduceIte, reduceCtorEq] <;> rfl) | fail)⟩
      · rw [hq] at s72 hR
        have hC : ∀ c ∈ r1.drop 1, c < 256 := fun c hc => hB c (List.mem_of_mem_drop hc)
        have s71b := fun σ => f71_tr (r1.drop 1) hC (by rw [List.length_drop]; omega) σ
        repeat (first
          | refine sk_seq ?_
          | refine sk_region ?_
          | refine sk_ops_nil ?_
          | refine sk_draw_nil ?_
          | refine sk_block ?_
          | refine sk_blk ?_
          | refine sk_skip ?_
          | refine sk_exit rfl ?_
          | refine sk_draw (id := 13) [0, 1, 2, 3, 4, 5, 6, 7, 8, 9, 10, 11, 12] mixed (by kernel_rfl) ?_
          | ((first | (apply sk_r; rfl; rfl) | (apply sk_w; rfl; rfl) | (apply sk_i; rfl) | (apply sk_g; rfl; rfl) | (apply sk_dr; rfl; rfl; rfl) | (apply sk_dg; rfl; rfl; rfl; rfl; rfl) | apply drd_i | (apply sk_dnr (i := 3) (fl := [1, 0]); rfl; rfl; decide +kernel; rfl; rfl) | (apply sk_dnw (i := 3) (fl := [1, 0]); rfl; rfl; decide +kernel; rfl; rfl) | (apply sk_dnr (i := 10) (fl := [9, 8]); rfl; rfl; decide +kernel; rfl; rfl) | (apply sk_dnw (i := 10) (fl := [9, 8]); rfl; rfl; decide +kernel; rfl; rfl) | (apply sk_dnr (i := 11) (fl := [9]); rfl; rfl; decide +kernel; rfl; rfl) | (apply sk_dnw (i := 11) (fl := [9]); rfl; rfl; decide +kernel; rfl; rfl) | (apply sk_dnr (i := 12) (fl := []); rfl; rfl; decide +kernel; rfl; rfl) | (apply sk_dnw (i := 12) (fl := []); rfl; rfl; decide +kernel; rfl; rfl)); (simp only [go_sem, Nat.reduceLT, Nat.reduceLeDiff, Nat.reduceEqDiff, Nat.reduceAdd, Nat.reduceSub, Nat.reduceMul, reduceIte, reduceCtorEq, h4, e1, e2, e3, e4, and_self, Int.le_refl, List.take_length] <;> rfl); (first | refine sk_id ?_ | refine cs_t ?_ | refine cs_f ?_ | refine gs_t rfl ?_ | refine gs_f rfl ?_ | ((repeat (first | exact trivial | ((first | (apply redos_r; rfl; rfl) | (apply redos_g; rfl; rfl; rfl; rfl)); (simp only [go_sem, Nat.reduceLT, Nat.reduceLeDiff, Nat.reduceEqDiff, Nat.reduceAdd, Nat.reduceSub, Nat.reduceMul, reduceIte, reduceCtorEq, h4, e1, e2, e3, e4, and_self, Int.le_refl, List.take_length] <;> rfl)) | (apply redos_s; rfl; rfl; rfl; (simp only [go_sem, Nat.reduceLT, Nat.reduceLeDiff, Nat.reduceEqDiff, Nat.reduceAdd, Nat.reduceSub, Nat.reduceMul, reduceIte, reduceCtorEq, h4, e1, e2, e3, e4, and_self, Int.le_refl, List.take_length] <;> rfl)))); refine sk_id ?_)))
          | ((first | (apply sk_c; rfl; rfl) | (apply sk_dnc (i := 5) (fl := []); rfl; rfl; decide +kernel; rfl)); (simp only [go_sem, Nat.reduceLT, Nat.reduceLeDiff, Nat.reduceEqDiff, Nat.reduceAdd, Nat.reduceSub, Nat.reduceMul, reduceIte, reduceCtorEq, h4, e1, e2, e3, e4, and_self, Int.le_refl, List.take_length] <;> rfl); (first
              | (refine (f32_tr r hr (by omega) _).mono ?_; rintro _ τ2 ⟨rfl, hτ2⟩; rw [hτ2])
              | (refine s51.mono ?_; rintro _ τ2 ⟨rfl, hτ2⟩; rw [hτ2])
              | (refine (s71 _).mono ?_; rintro _ τ2 ⟨rfl, hτ2⟩; rw [hτ2])
              | (refine (s71b _).mono ?_; rintro _ τ2 ⟨rfl, hτ2⟩; rw [hτ2])
              | (refine (s72 _).mono ?_; rintro _ τ2 ⟨rfl, hτ2⟩; rw [hτ2])); (first | refine sk_id ?_ | (refine ⟨?_, ?_⟩; (repeat (first | exact trivial | ((first | (apply redos_r; rfl; rfl) | (apply redos_g; rfl; rfl; rfl; rfl)); (simp only [go_sem, Nat.reduceLT, Nat.reduceLeDiff, Nat.reduceEqDiff, Nat.reduceAdd, Nat.reduceSub, Nat.reduceMul, reduceIte, reduceCtorEq, h4, e1, e2, e3, e4, and_self, Int.le_refl, List.take_length] <;> rfl)) | (apply redos_s; rfl; rfl; rfl; (simp only [go_sem, Nat.reduceLT, Nat.reduceLeDiff, Nat.reduceEqDiff, Nat.reduceAdd, Nat.reduceSub, Nat.reduceMul, reduceIte, reduceCtorEq, h4, e1, e2, e3, e4, and_self, Int.le_refl, List.take_length] <;> rfl)))); refine sk_id ?_))))
        exact sk_end ⟨rfl, _, hR.symm, (by first | (simp only [go_sem, Nat.reduceLT, Nat.reduceLeDiff, Nat.reduceEqDiff, Nat.reduceAdd, Nat.reduceSub, Nat.reduceMul, reduceIte, reduceCtorEq] <;> rfl) | fail)⟩
  rintro fr τ ⟨hτ, r, hR, h4⟩
  rw [hτ]
  have hsub := csGo_sub hR
  have hr : ∀ c ∈ r, c < 256 := fun c hc => hd c (hsub.1 c hc)
  have hrn : r.length ≤ 1000000 := Nat.le_trans hsub.2 hn
  have hcs : charsetOf l = csName r := by unfold charsetOf; rw [hR]
  rw [hcs]
  cases r with
  | nil =>
    have e1 : beqL ([] : List Nat) [] = true := rfl
    repeat (first
      | refine sk_seq ?_
      | refine sk_region ?_
      | refine sk_ops_nil ?_
      | refine sk_draw_nil ?_
      | refine sk_block ?_
      | refine sk_blk ?_
      | refine sk_skip ?_
      | refine sk_exit rfl ?_
      | refine sk_draw (id := 13) [0, 1, 2, 3, 4, 5, 6, 7, 8, 9, 10, 11, 12] mixed (by kernel_rfl) ?_
      | ((first | (apply sk_r; rfl; rfl) | (apply sk_w; rfl; rfl) | (apply sk_i; rfl) | (apply sk_g; rfl; rfl) | (apply sk_dr; rfl; rfl; rfl) | (apply sk_dg; rfl; rfl; rfl; rfl; rfl) | apply drd_i | (apply sk_dnr (i := 3) (fl := [1, 0]); rfl; rfl; decide +kernel; rfl; rfl) | (apply sk_dnw (i := 3) (fl := [1, 0]); rfl; rfl; decide +kernel; rfl; rfl) | (apply sk_dnr (i := 10) (fl := [9, 8]); rfl; rfl; decide +kernel; rfl; rfl) | (apply sk_dnw (i := 10) (fl := [9, 8]); rfl; rfl; decide +kernel; rfl; rfl) | (apply sk_dnr (i := 11) (fl := [9]); rfl; rfl; decide +kernel; rfl; rfl) | (apply sk_dnw (i := 11) (fl := [9]); rfl; rfl; decide +kernel; rfl; rfl) | (apply sk_dnr (i := 12) (fl := []); rfl; rfl; decide +kernel; rfl; rfl) | (apply sk_dnw (i := 12) (fl := []); rfl; rfl; decide +kernel; rfl; rfl)); (simp only [go_sem, Nat.reduceLT, Nat.reduceLeDiff, Nat.reduceEqDiff, Nat.reduceAdd, Nat.reduceSub, Nat.reduceMul, reduceIte, reduceCtorEq, h4, bytes_nil, e1] <;> rfl); (first | refine sk_id ?_ | refine cs_t ?_ | refine cs_f ?_ | refine gs_t rfl ?_ | refine gs_f rfl ?_ | ((repeat (first | exact trivial | ((first | (apply redos_r; rfl; rfl) | (apply redos_g; rfl; rfl; rfl; rfl)); (simp only [go_sem, Nat.reduceLT, Nat.reduceLeDiff, Nat.reduceEqDiff, Nat.reduceAdd, Nat.reduceSub, Nat.reduceMul, reduceIte, reduceCtorEq, h4, bytes_nil, e1] <;> rfl)) | (apply redos_s; rfl; rfl; rfl; (simp only [go_sem, Nat.reduceLT, Nat.reduceLeDiff, Nat.reduceEqDiff, Nat.reduceAdd, Nat.reduceSub, Nat.reduceMul, reduceIte, reduceCtorEq, h4, bytes_nil, e1] <;> rfl)))); refine sk_id ?_))))
    exact sk_ret ⟨_, (by first | (simp only [aRet, Tryd.results50, aResults, aResult, go_sem, Nat.reduceLT, Nat.reduceLeDiff, Nat.reduceEqDiff, Nat.reduceAdd, Nat.reduceSub, Nat.reduceMul, reduceIte, reduceCtorEq] <;> rfl) | fail), rfl, keepσ, rfl, rfl⟩
  | cons q t =>
    have e1 : beqL (q :: t) [] = false := rfl
    have e2 : (0 : Int) ≤ 0 := by omega
    have hq8 := hr q (by simp)
    have e3 : ((1 : Int) ≤ (((t.length + 1 : Nat)) : Int)) := by omega
    have e4 : (0 : Int) ≤ 1 := by omega
    have htn : t.length ≤ 1000000 := by simp at hrn; omega
    by_cases hq : q = 34 ∨ q = 39
    · have s73 := f73_tr (σ := σ.push (.cells [.int .u8 (q : Nat)] false 0 [])) (l := t) (t := [q]) (kp _ _ _ hm) htn
      have hmod : Nat.mod q 256 = q := Nat.mod_eq_of_lt hq8
      have ht1 : (t.take t.length) = t := List.take_length
      rw [csName_quote hq]
      have hAll : ∃ e5 : Bool, ((q : Int) == 34) = e5 ∧ (e5 = false → ((q : Int) == 39) = true) := by
        rcases hq with h | h
        · exact ⟨true, by simp [h], by simp⟩
        · exact ⟨false, by simp [h], by simp [h]⟩
      unfold cutAV at s73
      rcases hAll with ⟨e5, h5, h6⟩
      by_cases hi : indexN t [q] = -1
      · rw [if_pos hi] at s73 ⊢
        cases e5
        · have h6 := h6 rfl
          repeat (first
            | refine sk_seq ?_
            | refine sk_region ?_
            | refine sk_ops_nil ?_
            | refine sk_draw_nil ?_
            | refine sk_block ?_
            | refine sk_blk ?_
            | refine sk_skip ?_
            | refine sk_exit rfl ?_
            | refine sk_draw (id := 13) [0, 1, 2, 3, 4, 5, 6, 7, 8, 9, 10, 11, 12] mixed (by kernel_rfl) ?_
            | ((first | (apply sk_r; rfl; rfl) | (apply sk_w; rfl; rfl) | (apply sk_i; rfl) | (apply sk_g; rfl; rfl) | (apply sk_dr; rfl; rfl; rfl) | (apply sk_dg; rfl; rfl; rfl; rfl; rfl) | apply drd_i | (apply sk_dnr (i := 3) (fl := [1, 0]); rfl; rfl; decide +kernel; rfl; rfl) | (apply sk_dnw (i := 3) (fl := [1, 0]); rfl; rfl; decide +kernel; rfl; rfl) | (apply sk_dnr (i := 10) (fl := [9, 8]); rfl; rfl; decide +kernel; rfl; rfl) | (apply sk_dnw (i := 10) (fl := [9, 8]); rfl; rfl; decide +kernel; rfl; rfl) | (apply sk_dnr (i := 11) (fl := [9]); rfl; rfl; decide +kernel; rfl; rfl) | (apply sk_dnw (i := 11) (fl := [9]); rfl; rfl; decide +kernel; rfl; rfl) | (apply sk_dnr (i := 12) (fl := []); rfl; rfl; decide +kernel; rfl; rfl) | (apply sk_dnw (i := 12) (fl := []); rfl; rfl; decide +kernel; rfl; rfl)); (simp only [go_sem, Nat.reduceLT, Nat.reduceLeDiff, Nat.reduceEqDiff, Nat.reduceAdd, Nat.reduceSub, Nat.reduceMul, reduceIte, reduceCtorEq, h4, bytes_nil, e1, e2, h5, h6, hmod, e3, e4, and_self, Int.le_refl, List.take_length, List.take_succ_cons, List.drop_succ_cons, List.drop_zero, Int.toNat_one] <;> rfl); (first | refine sk_id ?_ | refine cs_t ?_ | refine cs_f ?_ | refine gs_t rfl ?_ | refine gs_f rfl ?_ | ((repeat (first | exact trivial | ((first | (apply redos_r; rfl; rfl) | (apply redos_g; rfl; rfl; rfl; rfl)); (simp only [go_sem, Nat.reduceLT, Nat.reduceLeDiff, Nat.reduceEqDiff, Nat.reduceAdd, Nat.reduceSub, Nat.reduceMul, reduceIte, reduceCtorEq, h4, bytes_nil, e1, e2, h5, h6, hmod, e3, e4, and_self, Int.le_refl, List.take_length, List.take_succ_cons, List.drop_succ_cons, List.drop_zero, Int.toNat_one] <;> rfl)) | (apply redos_s; rfl; rfl; rfl; (simp only [go_sem, Nat.reduceLT, Nat.reduceLeDiff, Nat.reduceEqDiff, Nat.reduceAdd, Nat.reduceSub, Nat.reduceMul, reduceIte, reduceCtorEq, h4, bytes_nil, e1, e2, h5, h6, hmod, e3, e4, and_self, Int.le_refl, List.take_length, List.take_succ_cons, List.drop_succ_cons, List.drop_zero, Int.toNat_one] <;> rfl)))); refine sk_id ?_)))
            | ((first | (apply sk_c; rfl; rfl) | (apply sk_dnc (i := 5) (fl := []); rfl; rfl; decide +kernel; rfl)); (simp only [go_sem, Nat.reduceLT, Nat.reduceLeDiff, Nat.reduceEqDiff, Nat.reduceAdd, Nat.reduceSub, Nat.reduceMul, reduceIte, reduceCtorEq, h4, bytes_nil, e1, e2, h5, h6, hmod, e3, e4, and_self, Int.le_refl, List.take_length, List.take_succ_cons, List.drop_succ_cons, List.drop_zero, Int.toNat_one] <;> rfl); (first
                | (refine s73.mono ?_; rintro _ τ2 ⟨rfl, hτ2⟩; rw [hτ2])); (first | refine sk_id ?_ | (refine ⟨?_, ?_⟩; (repeat (first | exact trivial | ((first | (apply redos_r; rfl; rfl) | (apply redos_g; rfl; rfl; rfl; rfl)); (simp only [go_sem, Nat.reduceLT, Nat.reduceLeDiff, Nat.reduceEqDiff, Nat.reduceAdd, Nat.reduceSub, Nat.reduceMul, reduceIte, reduceCtorEq, h4, bytes_nil, e1, e2, h5, h6, hmod, e3, e4, and_self, Int.le_refl, List.take_length, List.take_succ_cons, List.drop_succ_cons, List.drop_zero, Int.toNat_one] <;> rfl)) | (apply redos_s; rfl; rfl; rfl; (simp only [go_sem, Nat.reduceLT, Nat.reduceLeDiff, Nat.reduceEqDiff, Nat.reduceAdd, Nat.reduceSub, Nat.reduceMul, reduceIte, reduceCtorEq, h4, bytes_nil, e1, e2, h5, h6, hmod, e3, e4, and_self, Int.le_refl, List.take_length, List.take_succ_cons, List.drop_succ_cons, List.drop_zero, Int.toNat_one] <;> rfl)))); refine sk_id ?_))))
          exact sk_ret ⟨_, (by first | (simp only [aRet, Tryd.results50, aResults, aResult, go_sem, Nat.reduceLT, Nat.reduceLeDiff, Nat.reduceEqDiff, Nat.reduceAdd, Nat.reduceSub, Nat.reduceMul, reduceIte, reduceCtorEq] <;> rfl) | fail), rfl, kp _, rfl, rfl⟩
        · repeat (first
            | refine sk_seq ?_
            | refine sk_region ?_
            | refine sk_ops_nil ?_
            | refine sk_draw_nil ?_
            | refine sk_block ?_
            | refine sk_blk ?_
            | refine sk_skip ?_
            | refine sk_exit rfl ?_
            | refine sk_draw (id := 13) [0, 1, 2, 3, 4, 5, 6, 7, 8, 9, 10, 11, 12] mixed (by kernel_rfl) ?_
            | ((first | (apply sk_r; rfl; rfl) | (apply sk_w; rfl; rfl) | (apply sk_i; rfl) | (apply sk_g; rfl; rfl) | (apply sk_dr; rfl; rfl; rfl) | (apply sk_dg; rfl; rfl; rfl; rfl; rfl) | apply drd_i | (apply sk_dnr (i := 3) (fl := [1, 0]); rfl; rfl; decide +kernel; rfl; rfl) | (apply sk_dnw (i := 3) (fl := [1, 0]); rfl; rfl; decide +kernel; rfl; rfl) | (apply sk_dnr (i := 10) (fl := [9, 8]); rfl; rfl; decide +kernel; rfl; rfl) | (apply sk_dnw (i := 10) (fl := [9, 8]); rfl; rfl; decide +kernel; rfl; rfl) | (apply sk_dnr (i := 11) (fl := [9]); rfl; rfl; decide +kernel; rfl; rfl) | (apply sk_dnw (i := 11) (fl := [9]); rfl; rfl; decide +kernel; rfl; rfl) | (apply sk_dnr (i := 12) (fl := []); rfl; rfl; decide +kernel; rfl; rfl) | (apply sk_dnw (i := 12) (fl := []); rfl; rfl; decide +kernel; rfl; rfl)); (simp only [go_sem, Nat.reduceLT, Nat.reduceLeDiff, Nat.reduceEqDiff, Nat.reduceAdd, Nat.reduceSub, Nat.reduceMul, reduceIte, reduceCtorEq, h4, bytes_nil, e1, e2, h5, hmod, e3, e4, and_self, Int.le_refl, List.take_length, List.take_succ_cons, List.drop_succ_cons, List.drop_zero, Int.toNat_one] <;> rfl); (first | refine sk_id ?_ | refine cs_t ?_ | refine cs_f ?_ | refine gs_t rfl ?_ | refine gs_f rfl ?_ | ((repeat (first | exact trivial | ((first | (apply redos_r; rfl; rfl) | (apply redos_g; rfl; rfl; rfl; rfl)); (simp only [go_sem, Nat.reduceLT, Nat.reduceLeDiff, Nat.reduceEqDiff, Nat.reduceAdd, Nat.reduceSub, Nat.reduceMul, reduceIte, reduceCtorEq, h4, bytes_nil, e1, e2, h5, hmod, e3, e4, and_self, Int.le_refl, List.take_length, List.take_succ_cons, List.drop_succ_cons, List.drop_zero, Int.toNat_one] <;> rfl)) | (apply redos_s; rfl; rfl; rfl; (simp only [go_sem, Nat.reduceLT, Nat.reduceLeDiff, Nat.reduceEqDiff, Nat.reduceAdd, Nat.reduceSub, Nat.reduceMul, reduceIte, reduceCtorEq, h4, bytes_nil, e1, e2, h5, hmod, e3, e4, and_self, Int.le_refl, List.take_length, List.take_succ_cons, List.drop_succ_cons, List.drop_zero, Int.toNat_one] <;> rfl)))); refine sk_id ?_)))
            | ((first | (apply sk_c; rfl; rfl) | (apply sk_dnc (i := 5) (fl := []); rfl; rfl; decide +kernel; rfl)); (simp only [go_sem, Nat.reduceLT, Nat.reduceLeDiff, Nat.reduceEqDiff, Nat.reduceAdd, Nat.reduceSub, Nat.reduceMul, reduceIte, reduceCtorEq, h4, bytes_nil, e1, e2, h5, hmod, e3, e4, and_self, Int.le_refl, List.take_length, List.take_succ_cons, List.drop_succ_cons, List.drop_zero, Int.toNat_one] <;> rfl); (first
                | (refine s73.mono ?_; rintro _ τ2 ⟨rfl, hτ2⟩; rw [hτ2])); (first | refine sk_id ?_ | (refine ⟨?_, ?_⟩; (repeat (first | exact trivial | ((first | (apply redos_r; rfl; rfl) | (apply redos_g; rfl; rfl; rfl; rfl)); (simp only [go_sem, Nat.reduceLT, Nat.reduceLeDiff, Nat.reduceEqDiff, Nat.reduceAdd, Nat.reduceSub, Nat.reduceMul, reduceIte, reduceCtorEq, h4, bytes_nil, e1, e2, h5, hmod, e3, e4, and_self, Int.le_refl, List.take_length, List.take_succ_cons, List.drop_succ_cons, List.drop_zero, Int.toNat_one] <;> rfl)) | (apply redos_s; rfl; rfl; rfl; (simp only [go_sem, Nat.reduceLT, Nat.reduceLeDiff, Nat.reduceEqDiff, Nat.reduceAdd, Nat.reduceSub, Nat.reduceMul, reduceIte, reduceCtorEq, h4, bytes_nil, e1, e2, h5, hmod, e3, e4, and_self, Int.le_refl, List.take_length, List.take_succ_cons, List.drop_succ_cons, List.drop_zero, Int.toNat_one] <;> rfl)))); refine sk_id ?_))))
          exact sk_ret ⟨_, (by first | (simp only [aRet, Tryd.results50, aResults, aResult, go_sem, Nat.reduceLT, Nat.reduceLeDiff, Nat.reduceEqDiff, Nat.reduceAdd, Nat.reduceSub, Nat.reduceMul, reduceIte, reduceCtorEq] <;> rfl) | fail), rfl, kp _, rfl, rfl⟩
      · rw [if_neg hi] at s73 ⊢
        cases e5
        · have h6 := h6 rfl
          repeat (first
            | refine sk_seq ?_
            | refine sk_region ?_
            | refine sk_ops_nil ?_
            | refine sk_draw_nil ?_
            | refine sk_block ?_
            | refine sk_blk ?_
            | refine sk_skip ?_
            | refine sk_exit rfl ?_
            | refine sk_draw (id := 13) [0, 1, 2, 3, 4, 5, 6, 7, 8, 9, 10, 11, 12] mixed (by kernel_rfl) ?_
            | ((first | (apply sk_r; rfl; rfl) | (apply sk_w; rfl; rfl) | (apply sk_i; rfl) | (apply sk_g; rfl; rfl) | (apply sk_dr; rfl; rfl; rfl) | (apply sk_dg; rfl; rfl; rfl; rfl; rfl) | apply drd_i | (apply sk_dnr (i := 3) (fl := [1, 0]); rfl; rfl; decide +kernel; rfl; rfl) | (apply sk_dnw (i := 3) (fl := [1, 0]); rfl; rfl; decide +kernel; rfl; rfl) | (apply sk_dnr (i := 10) (fl := [9, 8]); rfl; rfl; decide +kernel; rfl; rfl) | (apply sk_dnw (i := 10) (fl := [9, 8]); rfl; rfl; decide +kernel; rfl; rfl) | (apply sk_dnr (i := 11) (fl := [9]); rfl; rfl; decide +kernel; rfl; rfl) | (apply sk_dnw (i := 11) (fl := [9]); rfl; rfl; decide +kernel; rfl; rfl) | (apply sk_dnr (i := 12) (fl := []); rfl; rfl; decide +kernel; rfl; rfl) | (apply sk_dnw (i := 12) (fl := []); rfl; rfl; decide +kernel; rfl; rfl)); (simp only [go_sem, Nat.reduceLT, Nat.reduceLeDiff, Nat.reduceEqDiff, Nat.reduceAdd, Nat.reduceSub, Nat.reduceMul, reduceIte, reduceCtorEq, h4, bytes_nil, e1, e2, h5, h6, hmod, e3, e4, and_self, Int.le_refl, List.take_length, List.take_succ_cons, List.drop_succ_cons, List.drop_zero, Int.toNat_one] <;> rfl); (first | refine sk_id ?_ | refine cs_t ?_ | refine cs_f ?_ | refine gs_t rfl ?_ | refine gs_f rfl ?_ | ((repeat (first | exact trivial | ((first | (apply redos_r; rfl; rfl) | (apply redos_g; rfl; rfl; rfl; rfl)); (simp only [go_sem, Nat.reduceLT, Nat.reduceLeDiff, Nat.reduceEqDiff, Nat.reduceAdd, Nat.reduceSub, Nat.reduceMul, reduceIte, reduceCtorEq, h4, bytes_nil, e1, e2, h5, h6, hmod, e3, e4, and_self, Int.le_refl, List.take_length, List.take_succ_cons, List.drop_succ_cons, List.drop_zero, Int.toNat_one] <;> rfl)) | (apply redos_s; rfl; rfl; rfl; (simp only [go_sem, Nat.reduceLT, Nat.reduceLeDiff, Nat.reduceEqDiff, Nat.reduceAdd, Nat.reduceSub, Nat.reduceMul, reduceIte, reduceCtorEq, h4, bytes_nil, e1, e2, h5, h6, hmod, e3, e4, and_self, Int.le_refl, List.take_length, List.take_succ_cons, List.drop_succ_cons, List.drop_zero, Int.toNat_one] <;> rfl)))); refine sk_id ?_)))
            | ((first | (apply sk_c; rfl; rfl) | (apply sk_dnc (i := 5) (fl := []); rfl; rfl; decide +kernel; rfl)); (simp only [go_sem, Nat.reduceLT, Nat.reduceLeDiff, Nat.reduceEqDiff, Nat.reduceAdd, Nat.reduceSub, Nat.reduceMul, reduceIte, reduceCtorEq, h4, bytes_nil, e1, e2, h5, h6, hmod, e3, e4, and_self, Int.le_refl, List.take_length, List.take_succ_cons, List.drop_succ_cons, List.drop_zero, Int.toNat_one] <;> rfl); (first
                | (refine s73.mono ?_; rintro _ τ2 ⟨rfl, hτ2⟩; rw [hτ2])); (first | refine sk_id ?_ | (refine ⟨?_, ?_⟩; (repeat (first | exact trivial | ((first | (apply redos_r; rfl; rfl) | (apply redos_g; rfl; rfl; rfl; rfl)); (simp only [go_sem, Nat.reduceLT, Nat.reduceLeDiff, Nat.reduceEqDiff, Nat.reduceAdd, Nat.reduceSub, Nat.reduceMul, reduceIte, reduceCtorEq, h4, bytes_nil, e1, e2, h5, h6, hmod, e3, e4, and_self, Int.le_refl, List.take_length, List.take_succ_cons, List.drop_succ_cons, List.drop_zero, Int.toNat_one] <;> rfl)) | (apply redos_s; rfl; rfl; rfl; (simp only [go_sem, Nat.reduceLT, Nat.reduceLeDiff, Nat.reduceEqDiff, Nat.reduceAdd, Nat.reduceSub, Nat.reduceMul, reduceIte, reduceCtorEq, h4, bytes_nil, e1, e2, h5, h6, hmod, e3, e4, and_self, Int.le_refl, List.take_length, List.take_succ_cons, List.drop_succ_cons, List.drop_zero, Int.toNat_one] <;> rfl)))); refine sk_id ?_))))
          exact sk_ret ⟨_, (by first | (simp only [aRet, Tryd.results50, aResults, aResult, go_sem, Nat.reduceLT, Nat.reduceLeDiff, Nat.reduceEqDiff, Nat.reduceAdd, Nat.reduceSub, Nat.reduceMul, reduceIte, reduceCtorEq] <;> rfl) | fail), rfl, kp _, rfl, rfl⟩
        · repeat (first
            | refine sk_seq ?_
            | refine sk_region ?_
            | refine sk_ops_nil ?_
            | refine sk_draw_nil ?_
            | refine sk_block ?_
            | refine sk_blk ?_
            | refine sk_skip ?_
            | refine sk_exit rfl ?_
            | refine sk_draw (id := 13) [0, 1, 2, 3, 4, 5, 6, 7, 8, 9, 10, 11, 12] mixed (by kernel_rfl) ?_
            | ((first | (apply sk_r; rfl; rfl) | (apply sk_w; rfl; rfl) | (apply sk_i; rfl) | (apply sk_g; rfl; rfl) | (apply sk_dr; rfl; rfl; rfl) | (apply sk_dg; rfl; rfl; rfl; rfl; rfl) | apply drd_i | (apply sk_dnr (i := 3) (fl := [1, 0]); rfl; rfl; decide +kernel; rfl; rfl) | (apply sk_dnw (i := 3) (fl := [1, 0]); rfl; rfl; decide +kernel; rfl; rfl) | (apply sk_dnr (i := 10) (fl := [9, 8]); rfl; rfl; decide +kernel; rfl; rfl) | (apply sk_dnw (i := 10) (fl := [9, 8]); rfl; rfl; decide +kernel; rfl; rfl) | (apply sk_dnr (i := 11) (fl := [9]); rfl; rfl; decide +kernel; rfl; rfl) | (apply sk_dnw (i := 11) (fl := [9]); rfl; rfl; decide +kernel; rfl; rfl) | (apply sk_dnr (i := 12) (fl := []); rfl; rfl; decide +kernel; rfl; rfl) | (apply sk_dnw (i := 12) (fl := []); rfl; rfl; decide +kernel; rfl; rfl)); (simp only [go_sem, Nat.reduceLT, Nat.reduceLeDiff, Nat.reduceEqDiff, Nat.reduceAdd, Nat.reduceSub, Nat.reduceMul, reduceIte, reduceCtorEq, h4, bytes_nil, e1, e2, h5, hmod, e3, e4, and_self, Int.le_refl, List.take_length, List.take_succ_cons, List.drop_succ_cons, List.drop_zero, Int.toNat_one] <;> rfl); (first | refine sk_id ?_ | refine cs_t ?_ | refine cs_f ?_ | refine gs_t rfl ?_ | refine gs_f rfl ?_ | ((repeat (first | exact trivial | ((first | (apply redos_r; rfl; rfl) | (apply redos_g; rfl; rfl; rfl; rfl)); (simp only [go_sem, Nat.reduceLT, Nat.reduceLeDiff, Nat.reduceEqDiff, Nat.reduceAdd, Nat.reduceSub, Nat.reduceMul, reduceIte, reduceCtorEq, h4, bytes_nil, e1, e2, h5, hmod, e3, e4, and_self, Int.le_refl, List.take_length, List.take_succ_cons, List.drop_succ_cons, List.drop_zero, Int.toNat_one] <;> rfl)) | (apply redos_s; rfl; rfl; rfl; (simp only [go_sem, Nat.reduceLT, Nat.reduceLeDiff, Nat.reduceEqDiff, Nat.reduceAdd, Nat.reduceSub, Nat.reduceMul, reduceIte, reduceCtorEq, h4, bytes_nil, e1, e2, h5, hmod, e3, e4, and_self, Int.le_refl, List.take_length, List.take_succ_cons, List.drop_succ_cons, List.drop_zero, Int.toNat_one] <;> rfl)))); refine sk_id ?_)))
            | ((first | (apply sk_c; rfl; rfl) | (apply sk_dnc (i := 5) (fl := []); rfl; rfl; decide +kernel; rfl)); (simp only [go_sem, Nat.reduceLT, Nat.reduceLeDiff, Nat.reduceEqDiff, Nat.reduceAdd, Nat.reduceSub, Nat.reduceMul, reduceIte, reduceCtorEq, h4, bytes_nil, e1, e2, h5, hmod, e3, e4, and_self, Int.le_refl, List.take_length, List.take_succ_cons, List.drop_succ_cons, List.drop_zero, Int.toNat_one] <;> rfl); (first
                | (refine s73.mono ?_; rintro _ τ2 ⟨rfl, hτ2⟩; rw [hτ2])); (first | refine sk_id ?_ | (refine ⟨?_, ?_⟩; (repeat (first | exact trivial | ((first | (apply redos_r; rfl; rfl) | (apply redos_g; rfl; rfl; rfl; rfl)); (simp only [go_sem, Nat.reduceLT, Nat.reduceLeDiff, Nat.reduceEqDiff, Nat.reduceAdd, Nat.reduceSub, Nat.reduceMul, reduceIte, reduceCtorEq, h4, bytes_nil, e1, e2, h5, hmod, e3, e4, and_self, Int.le_refl, List.take_length, List.take_succ_cons, List.drop_succ_cons, List.drop_zero, Int.toNat_one] <;> rfl)) | (apply redos_s; rfl; rfl; rfl; (simp only [go_sem, Nat.reduceLT, Nat.reduceLeDiff, Nat.reduceEqDiff, Nat.reduceAdd, Nat.reduceSub, Nat.reduceMul, reduceIte, reduceCtorEq, h4, bytes_nil, e1, e2, h5, hmod, e3, e4, and_self, Int.le_refl, List.take_length, List.take_succ_cons, List.drop_succ_cons, List.drop_zero, Int.toNat_one] <;> rfl)))); refine sk_id ?_))))
          exact sk_ret ⟨_, (by first | (simp only [aRet, Tryd.results50, aResults, aResult, go_sem, Nat.reduceLT, Nat.reduceLeDiff, Nat.reduceEqDiff, Nat.reduceAdd, Nat.reduceSub, Nat.reduceMul, reduceIte, reduceCtorEq] <;> rfl) | fail), rfl, kp _, rfl, rfl⟩
    · rw [csName_plain hq]
      have h5 : ((q : Int) == 34) = false := by simp; omega
      have h6 : ((q : Int) == 39) = false := by simp; omega
      have s74 := fun σ => f74_tr (q :: t) S6 (by decide) (by decide) (by decide) hr hrn σ
      rcases firstIn_le S6 (q :: t) with hi | ⟨i, hi, hil⟩
      · rw [hi] at s74 ⊢
        have e7 : decide ((-1 : Int) ≥ 0) = false := rfl
        rw [if_neg (by decide)]
        repeat (first
          | refine sk_seq ?_
          | refine sk_region ?_
          | refine sk_ops_nil ?_
          | refine sk_draw_nil ?_
          | refine sk_block ?_
          | refine sk_blk ?_
          | refine sk_skip ?_
          | refine sk_exit rfl ?_
          | refine sk_draw (id := 13) [0, 1, 2, 3, 4, 5, 6, 7, 8, 9, 10, 11, 12] mixed (by kernel_rfl) ?_
          | ((first | (apply sk_r; rfl; rfl) | (apply sk_w; rfl; rfl) | (apply sk_i; rfl) | (apply sk_g; rfl; rfl) | (apply sk_dr; rfl; rfl; rfl) | (apply sk_dg; rfl; rfl; rfl; rfl; rfl) | apply drd_i | (apply sk_dnr (i := 3) (fl := [1, 0]); rfl; rfl; decide +kernel; rfl; rfl) | (apply sk_dnw (i := 3) (fl := [1, 0]); rfl; rfl; decide +kernel; rfl; rfl) | (apply sk_dnr (i := 10) (fl := [9, 8]); rfl; rfl; decide +kernel; rfl; rfl) | (apply sk_dnw (i := 10) (fl := [9, 8]); rfl; rfl; decide +kernel; rfl; rfl) | (apply sk_dnr (i := 11) (fl := [9]); rfl; rfl; decide +kernel; rfl; rfl) | (apply sk_dnw (i := 11) (fl := [9]); rfl; rfl; decide +kernel; rfl; rfl) | (apply sk_dnr (i := 12) (fl := []); rfl; rfl; decide +kernel; rfl; rfl) | (apply sk_dnw (i := 12) (fl := []); rfl; rfl; decide +kernel; rfl; rfl)); (simp only [go_sem, Nat.reduceLT, Nat.reduceLeDiff, Nat.reduceEqDiff, Nat.reduceAdd, Nat.reduceSub, Nat.reduceMul, reduceIte, reduceCtorEq, h4, bytes_nil, e1, e2, h5, h6, e7] <;> rfl); (first | refine sk_id ?_ | refine cs_t ?_ | refine cs_f ?_ | refine gs_t rfl ?_ | refine gs_f rfl ?_ | ((repeat (first | exact trivial | ((first | (apply redos_r; rfl; rfl) | (apply redos_g; rfl; rfl; rfl; rfl)); (simp only [go_sem, Nat.reduceLT, Nat.reduceLeDiff, Nat.reduceEqDiff, Nat.reduceAdd, Nat.reduceSub, Nat.reduceMul, reduceIte, reduceCtorEq, h4, bytes_nil, e1, e2, h5, h6, e7] <;> rfl)) | (apply redos_s; rfl; rfl; rfl; (simp only [go_sem, Nat.reduceLT, Nat.reduceLeDiff, Nat.reduceEqDiff, Nat.reduceAdd, Nat.reduceSub, Nat.reduceMul, reduceIte, reduceCtorEq, h4, bytes_nil, e1, e2, h5, h6, e7] <;> rfl)))); refine sk_id ?_)))
          | ((first | (apply sk_c; rfl; rfl) | (apply sk_dnc (i := 5) (fl := []); rfl; rfl; decide +kernel; rfl)); (simp only [go_sem, Nat.reduceLT, Nat.reduceLeDiff, Nat.reduceEqDiff, Nat.reduceAdd, Nat.reduceSub, Nat.reduceMul, reduceIte, reduceCtorEq, h4, bytes_nil, e1, e2, h5, h6, e7] <;> rfl); (first
              | (refine (s74 _).mono ?_; rintro _ τ2 ⟨rfl, hτ2⟩; rw [hτ2])); (first | refine sk_id ?_ | (refine ⟨?_, ?_⟩; (repeat (first | exact trivial | ((first | (apply redos_r; rfl; rfl) | (apply redos_g; rfl; rfl; rfl; rfl)); (simp only [go_sem, Nat.reduceLT, Nat.reduceLeDiff, Nat.reduceEqDiff, Nat.reduceAdd, Nat.reduceSub, Nat.reduceMul, reduceIte, reduceCtorEq, h4, bytes_nil, e1, e2, h5, h6, e7] <;> rfl)) | (apply redos_s; rfl; rfl; rfl; (simp only [go_sem, Nat.reduceLT, Nat.reduceLeDiff, Nat.reduceEqDiff, Nat.reduceAdd, Nat.reduceSub, Nat.reduceMul, reduceIte, reduceCtorEq, h4, bytes_nil, e1, e2, h5, h6, e7] <;> rfl)))); refine sk_id ?_))))
        exact sk_ret ⟨_, (by first | (simp only [aRet, Tryd.results50, aResults, aResult, go_sem, Nat.reduceLT, Nat.reduceLeDiff, Nat.reduceEqDiff, Nat.reduceAdd, Nat.reduceSub, Nat.reduceMul, reduceIte, reduceCtorEq] <;> rfl) | fail), rfl, keepσ, rfl, rfl⟩
      · rw [hi] at s74 ⊢
        have e7 : decide ((i : Int) ≥ 0) = true := decide_eq_true (by omega)
        have e8 : (0 : Int) ≤ (i : Int) := by omega
        have e9 : (i : Int) ≤ ((t.length + 1 : Nat) : Int) := by simp at hil; omega
        rw [if_pos (by omega)]
        repeat (first
          | refine sk_seq ?_
          | refine sk_region ?_
          | refine sk_ops_nil ?_
          | refine sk_draw_nil ?_
          | refine sk_block ?_
          | refine sk_blk ?_
          | refine sk_skip ?_
          | refine sk_exit rfl ?_
          | refine sk_draw (id := 13) [0, 1, 2, 3, 4, 5, 6, 7, 8, 9, 10, 11, 12] mixed (by kernel_rfl) ?_
          | ((first | (apply sk_r; rfl; rfl) | (apply sk_w; rfl; rfl) | (apply sk_i; rfl) | (apply sk_g; rfl; rfl) | (apply sk_dr; rfl; rfl; rfl) | (apply sk_dg; rfl; rfl; rfl; rfl; rfl) | apply drd_i | (apply sk_dnr (i := 3) (fl := [1, 0]); rfl; rfl; decide +kernel; rfl; rfl) | (apply sk_dnw (i := 3) (fl := [1, 0]); rfl; rfl; decide +kernel; rfl; rfl) | (apply sk_dnr (i := 10) (fl := [9, 8]); rfl; rfl; decide +kernel; rfl; rfl) | (apply sk_dnw (i := 10) (fl := [9, 8]); rfl; rfl; decide +kernel; rfl; rfl) | (apply sk_dnr (i := 11) (fl := [9]); rfl; rfl; decide +kernel; rfl; rfl) | (apply sk_dnw (i := 11) (fl := [9]); rfl; rfl; decide +kernel; rfl; rfl) | (apply sk_dnr (i := 12) (fl := []); rfl; rfl; decide +kernel; rfl; rfl) | (apply sk_dnw (i := 12) (fl := []); rfl; rfl; decide +kernel; rfl; rfl)); (simp only [go_sem, Nat.reduceLT, Nat.reduceLeDiff, Nat.reduceEqDiff, Nat.reduceAdd, Nat.reduceSub, Nat.reduceMul, reduceIte, reduceCtorEq, h4, bytes_nil, e1, e2, h5, h6, e7, e8, e9, and_self, Int.le_refl, List.drop_zero, Int.toNat_zero] <;> rfl); (first | refine sk_id ?_ | refine cs_t ?_ | refine cs_f ?_ | refine gs_t rfl ?_ | refine gs_f rfl ?_ | ((repeat (first | exact trivial | ((first | (apply redos_r; rfl; rfl) | (apply redos_g; rfl; rfl; rfl; rfl)); (simp only [go_sem, Nat.reduceLT, Nat.reduceLeDiff, Nat.reduceEqDiff, Nat.reduceAdd, Nat.reduceSub, Nat.reduceMul, reduceIte, reduceCtorEq, h4, bytes_nil, e1, e2, h5, h6, e7, e8, e9, and_self, Int.le_refl, List.drop_zero, Int.toNat_zero] <;> rfl)) | (apply redos_s; rfl; rfl; rfl; (simp only [go_sem, Nat.reduceLT, Nat.reduceLeDiff, Nat.reduceEqDiff, Nat.reduceAdd, Nat.reduceSub, Nat.reduceMul, reduceIte, reduceCtorEq, h4, bytes_nil, e1, e2, h5, h6, e7, e8, e9, and_self, Int.le_refl, List.drop_zero, Int.toNat_zero] <;> rfl)))); refine sk_id ?_)))
          | ((first | (apply sk_c; rfl; rfl) | (apply sk_dnc (i := 5) (fl := []); rfl; rfl; decide +kernel; rfl)); (simp only [go_sem, Nat.reduceLT, Nat.reduceLeDiff, Nat.reduceEqDiff, Nat.reduceAdd, Nat.reduceSub, Nat.reduceMul, reduceIte, reduceCtorEq, h4, bytes_nil, e1, e2, h5, h6, e7, e8, e9, and_self, Int.le_refl, List.drop_zero, Int.toNat_zero] <;> rfl); (first
              | (refine (s74 _).mono ?_; rintro _ τ2 ⟨rfl, hτ2⟩; rw [hτ2])); (first | refine sk_id ?_ | (refine ⟨?_, ?_⟩; (repeat (first | exact trivial | ((first | (apply redos_r; rfl; rfl) | (apply redos_g; rfl; rfl; rfl; rfl)); (simp only [go_sem, Nat.reduceLT, Nat.reduceLeDiff, Nat.reduceEqDiff, Nat.reduceAdd, Nat.reduceSub, Nat.reduceMul, reduceIte, reduceCtorEq, h4, bytes_nil, e1, e2, h5, h6, e7, e8, e9, and_self, Int.le_refl, List.drop_zero, Int.toNat_zero] <;> rfl)) | (apply redos_s; rfl; rfl; rfl; (simp only [go_sem, Nat.reduceLT, Nat.reduceLeDiff, Nat.reduceEqDiff, Nat.reduceAdd, Nat.reduceSub, Nat.reduceMul, reduceIte, reduceCtorEq, h4, bytes_nil, e1, e2, h5, h6, e7, e8, e9, and_self, Int.le_refl, List.drop_zero, Int.toNat_zero] <;> rfl)))); refine sk_id ?_))))
        exact sk_ret ⟨_, (by first | (simp only [aRet, Tryd.results50, aResults, aResult, go_sem, Nat.reduceLT, Nat.reduceLeDiff, Nat.reduceEqDiff, Nat.reduceAdd, Nat.reduceSub, Nat.reduceMul, reduceIte, reduceCtorEq, Int.toNat_natCast] <;> rfl) | fail), rfl, keepσ, rfl, rfl⟩
end Go.Proofs.YtophnlmdcidolaaDoor
