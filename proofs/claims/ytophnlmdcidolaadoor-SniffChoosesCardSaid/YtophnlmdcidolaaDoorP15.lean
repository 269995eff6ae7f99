import Derived.Test.YtophnlmdcidolaaDoorP14
set_option linter.all false
namespace Go.Proofs.YtophnlmdcidolaaDoor
open Go Go.Am
set_option maxHeartbeats 8000000
set_option maxRecDepth 100000
/-- past all attributes -/
def atGo (d : List Nat) : Nat → Nat → Nat
  | 0, k => k
  | f + 1, k => if (attrOf d k).2.2.2 = true then atGo d f (attrOf d k).2.2.1 else (attrOf d k).2.2.1
theorem atGo_all {d : List Nat} (hd : ∀ c ∈ d, c < 256) : ∀ (f k : Nat), k ≤ d.length → k ≤ atGo d f k ∧ atGo d f k ≤ d.length
  | 0, k, h => ⟨Nat.le_refl _, h⟩
  | f + 1, k, h => by
    obtain ⟨_, _, h3, h4⟩ := attr_all hd h
    unfold atGo
    split
    · have := atGo_all hd f _ h4; omega
    · exact ⟨h3, h4⟩
/-- the place behind '<' or '</' -/
def tagAt (s : List Nat) (p : Nat) : Nat := if s[p + 1]? = some 47 then p + 2 else p + 1
def letAt (s : List Nat) (k : Nat) : Bool := match s[k]? with
  | none => false
  | some c => isLet c
abbrev E6 : List Nat := [62, 9, 10, 12, 13, 32]
/-- where what begins here ends -/
def skipOf (s : List Nat) (p : Nat) : Nat :=
  if s[p]? ≠ some 60 ∨ p + 1 = s.length then p
  else if pre [60, 33, 45, 45] (s.drop p) then (if indexN (s.drop (p + 2)) [45, 45, 62] = -1 then s.length else p + 2 + (indexN (s.drop (p + 2)) [45, 45, 62]).toNat + 2)
  else if letAt s (tagAt s p) then atGo s (s.length + 1) (run (fun c => !isIn E6 c) s (tagAt s p))
  else if s[p + 1]? = some 33 ∨ s[p + 1]? = some 47 ∨ s[p + 1]? = some 63 then run (fun c => !isIn [62] c) s p
  else p
theorem tagAt_le {s : List Nat} {p : Nat} (h : p + 1 < s.length) : p + 1 ≤ tagAt s p ∧ tagAt s p ≤ s.length := by
  unfold tagAt; split <;> omega
theorem skipOf_all {s : List Nat} (hd : ∀ c ∈ s, c < 256) {p : Nat} (h : p < s.length) : p ≤ skipOf s p ∧ skipOf s p ≤ s.length := by
  unfold skipOf
  split
  · omega
  · rename_i hn
    have hp : p + 1 < s.length := by
      by_cases e : p + 1 = s.length
      · exact absurd (.inr e) hn
      · omega
    have ht := tagAt_le hp
    split
    · rcases indexN_spec (s.drop (p + 2)) [45, 45, 62] with ⟨h1, _⟩ | ⟨i, h1, h2, h3, _⟩
      · rw [h1, if_pos rfl]; omega
      · have := (pre_take h3).1
        simp only [List.length_drop, List.length_cons, List.length_nil] at this
        rw [h1, if_neg (by omega), Int.toNat_natCast]; omega
    · split
      · have h1 := run_ge (fun c => !isIn E6 c) s (tagAt s p)
        have h2 := run_le (p := fun c => !isIn E6 c) ht.2
        have := atGo_all hd (s.length + 1) _ h2
        omega
      · split
        · have h1 := run_ge (fun c => !isIn [62] c) s p
          have h2 := run_le (p := fun c => !isIn [62] c) (d := s) (k := p) (by omega)
          omega
        · omega
theorem pre_one (c : Nat) (l : List Nat) (x : Nat) : pre [x] (c :: l) = decide (c = x) := by unfold pre; simp
theorem upto_put {b k : Nat} {d S : List Nat} (hS : ∀ c ∈ S, c < 128) (hk : k ≤ d.length) (hl : d.length ≤ 1000000) (σ : AHeap) (hb : σ.m.get b = some (rdr d k)) :
    Tr Tryd.prog 54 [.ptr b 0, .str S] σ fun v σ' => ∃ x y, v = .tuple [x, y] ∧ σ' = σ.put b (rdr d (run (fun c => !isIn S c) d k)) [] := by
  refine (f54_tr b k d S hS hk hl σ hb).mono fun v σ' ⟨h1, h2⟩ => ?_
  have hle := run_le (p := fun c => !isIn S c) hk
  by_cases h : run (fun c => !isIn S c) d k < d.length
  · obtain ⟨e1, e2⟩ := h1 h
    exact ⟨_, _, e1, e2⟩
  · obtain ⟨e1, e2⟩ := h2 (by omega)
    have : run (fun c => !isIn S c) d k = d.length := by omega
    exact ⟨_, _, e1, by rw [this]; exact e2⟩
theorem f35_tr (p : Nat) (s : List Nat) (hd : ∀ c ∈ s, c < 256) (hp : p < s.length) (hl : s.length ≤ 1000000) {σ : AHeap} {m : Int} (hm : σ.m.get 0 = some (.cells [.int .i64 m] true 0 [])) :
    Tr Tryd.prog 35 [.str s, .int .i64 (p : Nat)] σ fun v σ' => v = .int .i64 (skipOf s p : Nat) ∧ σ' = σ := by
  refine Tr.wf fun hW => Tr.pure ?_
  refine sk_body (m := 90) Tryd.func35 rfl (by decide) rfl ?_
  have keepσ : ∀ b y, σ.m.get b = some y → σ.m.get b = some y := fun _ _ h => h
  have kp : ∀ (x : ABlock) b y, σ.m.get b = some y → (σ.push x).m.get b = some y := fun x b y h => by rw [get_push, if_neg (by have := wf_lt hW h; omega)]; exact h
  have kC : bytesOf { data := #[60, 33, 45, 45] } = [60, 33, 45, 45] := rfl
  have kD : bytesOf { data := #[45, 45, 62] } = [45, 45, 62] := rfl
  have kL : bytesOf { data := #[60] } = [60] := rfl
  have kS : bytesOf { data := #[47] } = [47] := rfl
  have kE : bytesOf { data := #[62, 9, 10, 12, 13, 32] } = E6 := rfl
  have kB : bytesOf { data := #[33, 47, 63] } = [33, 47, 63] := rfl
  have kG : bytesOf { data := #[62] } = [62] := rfl
  obtain ⟨c, hc⟩ := at_some hp
  have hdr := drop_some hc
  have e1 : (0 : Int) ≤ (p : Int) := by omega
  have e2 : (p : Int) ≤ (s.length : Int) := by omega
  obtain ⟨r, hr⟩ : ∃ r, r = s.drop p := ⟨_, rfl⟩
  have hrl : r.length = s.length - p := by rw [hr, List.length_drop]
  have hr0 : r[0]? = some c := by rw [hr, hdr]; rfl
  have s17 := fun σ => f17_tr r [60, 33, 45, 45] σ
  have s52 := fun σ => f52_tr r [60] σ
  unfold skipOf
  rw [hc, ← hr]
  by_cases hpre : pre [60, 33, 45, 45] r = true
  · have hpl := pre_len hpre
    have hc60 : c = 60 := by
      have := of_decide_eq_true hpre
      rw [hr, hdr] at this
      simp at this
      exact this.1
    simp at hpl
    rw [if_neg (by simp [hc60]; omega), if_pos hpre]
    rw [hpre] at s17
    have e3 : (0 : Int) ≤ 2 := by omega
    have t2 : Int.toNat 2 = 2 := rfl
    have e4 : (2 : Int) ≤ (r.length : Int) := by omega
    have e5 : r.drop 2 = s.drop (p + 2) := by rw [hr, List.drop_drop]
    have s51 := f51_tr (l := s.drop (p + 2)) (t := [45, 45, 62]) hm (by rw [List.length_drop]; omega)
    have e6 : r.take r.length = r := List.take_length
    rcases indexN_spec (s.drop (p + 2)) [45, 45, 62] with ⟨h1, _⟩ | ⟨i, h1, h2, h3, _⟩
    · rw [h1] at s51 ⊢
      have e7 : decide ((-1 : Int) ≥ 0) = false := rfl
      rw [if_pos rfl]
      repeat (first
        | refine sk_seq ?_
        | refine sk_region ?_
        | refine sk_ops_nil ?_
        | refine sk_block ?_
        | refine sk_blk ?_
        | refine sk_skip ?_
        | refine sk_exit rfl ?_
        | ((first | (apply sk_r; rfl; rfl) | (apply sk_w; rfl; rfl) | (apply sk_i; rfl) | (apply sk_g; rfl; rfl)); (simp only [go_sem, Nat.reduceLT, Nat.reduceLeDiff, Nat.reduceEqDiff, Nat.reduceAdd, Nat.reduceSub, Nat.reduceMul, reduceIte, reduceCtorEq, ← hr, e1, e2, e3, e4, e5, e6, e7, and_self, Int.le_refl, List.take_length, t2] <;> rfl); (first | refine sk_id ?_ | refine cs_t ?_ | refine cs_f ?_ | refine gs_t rfl ?_ | refine gs_f rfl ?_))
        | ((first | (apply sk_c; rfl; rfl)); (simp only [go_sem, Nat.reduceLT, Nat.reduceLeDiff, Nat.reduceEqDiff, Nat.reduceAdd, Nat.reduceSub, Nat.reduceMul, reduceIte, reduceCtorEq, ← hr, e1, e2, e3, e4, e5, e6, e7, and_self, Int.le_refl, List.take_length, t2] <;> rfl); (first
            | (refine (s17 _).mono ?_; rintro _ τ2 ⟨rfl, hτ2⟩; rw [hτ2])
            | (refine s51.mono ?_; rintro _ τ2 ⟨rfl, hτ2⟩; rw [hτ2])); refine sk_id ?_))
      exact sk_ret ⟨_, (by first | (simp only [aRet, Tryd.results35, aResults, aResult, go_sem, Nat.reduceLT, Nat.reduceLeDiff, Nat.reduceEqDiff, Nat.reduceAdd, Nat.reduceSub, Nat.reduceMul, reduceIte, reduceCtorEq] <;> rfl) | fail), rfl, keepσ, rfl, rfl⟩
    · have := (pre_take h3).1
      simp only [List.length_drop, List.length_cons, List.length_nil] at this
      rw [h1] at s51 ⊢
      rw [if_neg (by omega), Int.toNat_natCast]
      have e7 : decide ((i : Int) ≥ 0) = true := decide_eq_true (by omega)
      have e8 : IntKind.wrap .i64 ((p : Int) + 2) = ((p + 2 : Nat) : Int) := wrap_i64 (by omega) (by omega)
      have e9 : IntKind.wrap .i64 (((p + 2 : Nat) : Int) + (i : Int)) = ((p + 2 + i : Nat) : Int) := by rw [wrap_i64 (by omega) (by omega)]; rfl
      have e10 : IntKind.wrap .i64 (((p + 2 + i : Nat) : Int) + 2) = ((p + 2 + i + 2 : Nat) : Int) := wrap_i64 (by omega) (by omega)
      repeat (first
        | refine sk_seq ?_
        | refine sk_region ?_
        | refine sk_ops_nil ?_
        | refine sk_block ?_
        | refine sk_blk ?_
        | refine sk_skip ?_
        | refine sk_exit rfl ?_
        | ((first | (apply sk_r; rfl; rfl) | (apply sk_w; rfl; rfl) | (apply sk_i; rfl) | (apply sk_g; rfl; rfl)); (simp only [go_sem, Nat.reduceLT, Nat.reduceLeDiff, Nat.reduceEqDiff, Nat.reduceAdd, Nat.reduceSub, Nat.reduceMul, reduceIte, reduceCtorEq, ← hr, e1, e2, e3, e4, e5, e6, e7, e8, e9, e10, and_self, Int.le_refl, List.take_length, t2] <;> rfl); (first | refine sk_id ?_ | refine cs_t ?_ | refine cs_f ?_ | refine gs_t rfl ?_ | refine gs_f rfl ?_))
        | ((first | (apply sk_c; rfl; rfl)); (simp only [go_sem, Nat.reduceLT, Nat.reduceLeDiff, Nat.reduceEqDiff, Nat.reduceAdd, Nat.reduceSub, Nat.reduceMul, reduceIte, reduceCtorEq, ← hr, e1, e2, e3, e4, e5, e6, e7, e8, e9, e10, and_self, Int.le_refl, List.take_length, t2] <;> rfl); (first
            | (refine (s17 _).mono ?_; rintro _ τ2 ⟨rfl, hτ2⟩; rw [hτ2])
            | (refine s51.mono ?_; rintro _ τ2 ⟨rfl, hτ2⟩; rw [hτ2])); refine sk_id ?_))
      exact sk_ret ⟨_, (by first | (simp only [aRet, Tryd.results35, aResults, aResult, go_sem, Nat.reduceLT, Nat.reduceLeDiff, Nat.reduceEqDiff, Nat.reduceAdd, Nat.reduceSub, Nat.reduceMul, reduceIte, reduceCtorEq] <;> rfl) | fail), rfl, keepσ, rfl, rfl⟩
  · have hpre : pre [60, 33, 45, 45] r = false := by simpa using hpre
    rw [hpre] at s17
    by_cases hc60 : c = 60
    · have f1 : ((c : Int) != 60) = false := by simp [hc60]
      have hp60 : pre [60] r = true := by rw [hr, hdr, pre_one]; simp [hc60]
      rw [hp60] at s52
      by_cases hp1 : p + 1 = s.length
      · rw [if_pos (.inr hp1)]
        have f2 : decide ((r.length : Int) < 2) = true := decide_eq_true (by omega)
        repeat (first
          | refine sk_seq ?_
          | refine sk_region ?_
          | refine sk_ops_nil ?_
          | refine sk_block ?_
          | refine sk_blk ?_
          | refine sk_skip ?_
          | refine sk_exit rfl ?_
          | ((first | (apply sk_r; rfl; rfl) | (apply sk_w; rfl; rfl) | (apply sk_i; rfl) | (apply sk_g; rfl; rfl)); (simp only [go_sem, Nat.reduceLT, Nat.reduceLeDiff, Nat.reduceEqDiff, Nat.reduceAdd, Nat.reduceSub, Nat.reduceMul, reduceIte, reduceCtorEq, ← hr, e1, e2, f1, f2, hr0, and_self, Int.le_refl, List.take_length, Int.toNat_zero] <;> rfl); (first | refine sk_id ?_ | refine cs_t ?_ | refine cs_f ?_ | refine gs_t rfl ?_ | refine gs_f rfl ?_))
          | ((first | (apply sk_c; rfl; rfl)); (simp only [go_sem, Nat.reduceLT, Nat.reduceLeDiff, Nat.reduceEqDiff, Nat.reduceAdd, Nat.reduceSub, Nat.reduceMul, reduceIte, reduceCtorEq, ← hr, e1, e2, f1, f2, hr0, and_self, Int.le_refl, List.take_length, Int.toNat_zero] <;> rfl); (first
              | (refine (s17 _).mono ?_; rintro _ τ2 ⟨rfl, hτ2⟩; rw [hτ2])
              | (refine (s52 _).mono ?_; rintro _ τ2 ⟨rfl, hτ2⟩; rw [hτ2])
              | (refine (f52_tr _ [47] _).mono ?_; rintro _ τ2 ⟨rfl, hτ2⟩; rw [hτ2])); refine sk_id ?_))
        exact sk_ret ⟨_, (by first | (simp only [aRet, Tryd.results35, aResults, aResult, go_sem, Nat.reduceLT, Nat.reduceLeDiff, Nat.reduceEqDiff, Nat.reduceAdd, Nat.reduceSub, Nat.reduceMul, reduceIte, reduceCtorEq] <;> rfl) | fail), rfl, keepσ, rfl, rfl⟩
      · rw [if_neg (by simp [hc60, hp1]), if_neg (by rw [hpre]; simp)]
        have f2 : decide ((r.length : Int) < 2) = false := decide_eq_false (by omega)
        obtain ⟨c1, hc1⟩ := at_some (d := s) (k := p + 1) (by omega)
        have hc18 := hd c1 (at_mem hc1)
        have hr1 : r[1]? = some c1 := by rw [hr, List.getElem?_drop]; exact hc1
        have hkt := tagAt_le (s := s) (p := p) (by omega)
        have htag : (if pre [47] (r.drop 1) then (r.drop 1).drop 1 else r.drop 1) = s.drop (tagAt s p) := by
          rw [hr, List.drop_drop, drop_some hc1, pre_one]
          unfold tagAt
          rw [hc1]
          by_cases h : c1 = 47
          · simp [h]
          · rw [if_neg (by simpa using h), if_neg (by simpa using h), ← drop_some hc1]
        have s52b : ∀ σ, Tr Tryd.prog 52 [.str (r.drop 1), .str [47]] σ fun v σ' => v = .str (s.drop (tagAt s p)) ∧ σ' = σ := fun σ => by
          rw [← htag]; exact f52_tr (r.drop 1) [47] σ
        generalize tagAt s p = k at *
        rw [hc1]
        by_cases hl : letAt s k = true
        · rw [if_pos hl]
          obtain ⟨x, hx⟩ : ∃ x, s[k]? = some x := by
            unfold letAt at hl
            cases h : s[k]? with
            | none => rw [h] at hl; cases hl
            | some x => exact ⟨x, rfl⟩
          have hxl : isLet x = true := by unfold letAt at hl; rw [hx] at hl; exact hl
          have hkl : k < s.length := (List.getElem?_eq_some_iff.1 hx).1
          have hx8 := hd x (at_mem hx)
          have hs0 : (s.drop k)[0]? = some x := by rw [drop_some hx]; rfl
          have hne : beqL (s.drop k) [] = false := by rw [drop_some hx]; rfl
          have s53 := fun σ => f53_tr x hx8 σ
          rw [hxl] at s53
          have hsl : (s.drop k).length = s.length - k := List.length_drop
          have f3 : IntKind.wrap .i64 ((s.length : Int) - (((s.length - k : Nat)) : Int)) = ((k : Nat) : Int) := by rw [wrap_i64 (by omega) (by omega)]; omega
          have sU := upto_put (b := σ.next) (k := k) (d := s) (S := E6) (by decide) (by omega) (by omega) (σ.push (rdr s k)) (get_push_same _ _)
          obtain ⟨T, hT⟩ : ∃ T, T = run (fun c => !isIn E6 c) s k := ⟨_, rfl⟩
          rw [← hT] at sU ⊢
          have hTl : T ≤ s.length := by rw [hT]; exact run_le (by omega)
          repeat (first
            | refine sk_seq ?_
            | refine sk_region ?_
            | refine sk_ops_nil ?_
            | refine sk_block ?_
            | refine sk_blk ?_
            | refine sk_skip ?_
            | refine sk_exit rfl ?_
            | ((first | (apply sk_r; rfl; rfl) | (apply sk_w; rfl; rfl) | (apply sk_i; rfl) | (apply sk_g; rfl; rfl)); (simp only [go_sem, Nat.reduceLT, Nat.reduceLeDiff, Nat.reduceEqDiff, Nat.reduceAdd, Nat.reduceSub, Nat.reduceMul, reduceIte, reduceCtorEq, ← hr, e1, e2, f1, f2, f3, hr0, hr1, hs0, hne, hsl, and_self, Int.le_refl, List.take_length, Int.toNat_zero, bytes_nil, Bool.not_false] <;> rfl); (first | refine sk_id ?_ | refine cs_t ?_ | refine cs_f ?_ | refine gs_t rfl ?_ | refine gs_f rfl ?_))
            | ((first | (apply sk_c; rfl; rfl)); (simp only [go_sem, Nat.reduceLT, Nat.reduceLeDiff, Nat.reduceEqDiff, Nat.reduceAdd, Nat.reduceSub, Nat.reduceMul, reduceIte, reduceCtorEq, ← hr, e1, e2, f1, f2, f3, hr0, hr1, hs0, hne, hsl, and_self, Int.le_refl, List.take_length, Int.toNat_zero, bytes_nil, Bool.not_false] <;> rfl); (first
                | (refine (s17 _).mono ?_; rintro _ τ2 ⟨rfl, hτ2⟩; rw [hτ2])
                | (refine (s52 _).mono ?_; rintro _ τ2 ⟨rfl, hτ2⟩; rw [hτ2])
                | (refine (s52b _).mono ?_; rintro _ τ2 ⟨rfl, hτ2⟩; rw [hτ2])
                | (refine (s53 _).mono ?_; rintro _ τ2 ⟨rfl, hτ2⟩; rw [hτ2])
                | (refine sU.mono ?_; rintro _ τ2 ⟨x1, x2, rfl, hτ2⟩; rw [hτ2, put_push_same])); refine sk_id ?_))
          refine sk_cut (fun fr σ' => fget fr 8 = .ptr σ.next 0 ∧ σ' = σ.push (rdr s (atGo s (s.length + 1) T))) ?_ ?_
          · refine sk_loop (fun m fr σ' => ∃ f j, ∃ ok : Bool, m = f + (if ok then 1 else 0) ∧ j ≤ s.length ∧ fget fr 0 = .str s ∧ fget fr 8 = .ptr σ.next 0 ∧ fget fr 9 = .bool ok ∧ σ' = σ.push (rdr s j) ∧ (ok = true → s.length - j < f ∧ atGo s f j = atGo s (s.length + 1) T) ∧ (ok = false → j = atGo s (s.length + 1) T)) _
              ⟨s.length + 1, T, true, rfl, hTl, (by first | (simp only [go_sem, Nat.reduceLT, Nat.reduceLeDiff, Nat.reduceEqDiff, Nat.reduceAdd, Nat.reduceSub, Nat.reduceMul, reduceIte, reduceCtorEq] <;> rfl) | fail), (by first | (simp only [go_sem, Nat.reduceLT, Nat.reduceLeDiff, Nat.reduceEqDiff, Nat.reduceAdd, Nat.reduceSub, Nat.reduceMul, reduceIte, reduceCtorEq] <;> rfl) | fail), (by first | (simp only [go_sem, Nat.reduceLT, Nat.reduceLeDiff, Nat.reduceEqDiff, Nat.reduceAdd, Nat.reduceSub, Nat.reduceMul, reduceIte, reduceCtorEq] <;> rfl) | fail), rfl, fun _ => ⟨by omega, rfl⟩, fun h => by cases h⟩ ?_
            rintro _ fr τ ⟨f, j, ok, rfl, hj, h0, h8, h9, hτ, hok, hno⟩
            rw [hτ]
            have g1 := get_push_same σ (rdr s j)
            cases ok
            · repeat (first
                | refine sk_seq ?_
                | refine sk_region ?_
                | refine sk_ops_nil ?_
                | refine sk_block ?_
                | refine sk_blk ?_
                | refine sk_skip ?_
                | refine sk_exit rfl ?_
                | ((first | (apply sk_r; rfl; rfl) | (apply sk_w; rfl; rfl) | (apply sk_i; rfl) | (apply sk_g; rfl; rfl)); (simp only [go_sem, Nat.reduceLT, Nat.reduceLeDiff, Nat.reduceEqDiff, Nat.reduceAdd, Nat.reduceSub, Nat.reduceMul, reduceIte, reduceCtorEq, h9] <;> rfl); (first | refine sk_id ?_ | refine cs_t ?_ | refine cs_f ?_ | refine gs_t rfl ?_ | refine gs_f rfl ?_)))
              exact sk_end ⟨(by first | (simp only [go_sem, Nat.reduceLT, Nat.reduceLeDiff, Nat.reduceEqDiff, Nat.reduceAdd, Nat.reduceSub, Nat.reduceMul, reduceIte, reduceCtorEq, h8] <;> rfl) | fail), by rw [hno rfl]⟩
            · obtain ⟨hf, hR⟩ := hok rfl
              obtain ⟨f, rfl⟩ : ∃ g, f = g + 1 := ⟨f - 1, by omega⟩
              have hat := attr_all hd hj
              have hend := attr_end (d := s) (k := j) hj
              have s49 := fun σ => f49_tr j s hd hj (by omega) σ
              rw [atGo] at hR
              obtain ⟨⟨n, v, nx, ok⟩, hA⟩ : ∃ r, attrOf s j = r := ⟨_, rfl⟩
              rw [hA] at hat hend s49 hR
              simp only [attrAV] at hat hend s49 hR
              cases ok
              · rw [if_neg (by simp)] at hR
                repeat (first
                  | refine sk_seq ?_
                  | refine sk_region ?_
                  | refine sk_ops_nil ?_
                  | refine sk_block ?_
                  | refine sk_blk ?_
                  | refine sk_skip ?_
                  | refine sk_exit rfl ?_
                  | ((first | (apply sk_r; rfl; rfl) | (apply sk_w; rfl; rfl) | (apply sk_i; rfl) | (apply sk_g; rfl; rfl)); (simp only [go_sem, Nat.reduceLT, Nat.reduceLeDiff, Nat.reduceEqDiff, Nat.reduceAdd, Nat.reduceSub, Nat.reduceMul, reduceIte, reduceCtorEq, h0, h8, h9, g1] <;> rfl); (first | refine sk_id ?_ | refine cs_t ?_ | refine cs_f ?_ | refine gs_t rfl ?_ | refine gs_f rfl ?_))
                  | ((first | (apply sk_c; rfl; rfl)); (simp only [go_sem, Nat.reduceLT, Nat.reduceLeDiff, Nat.reduceEqDiff, Nat.reduceAdd, Nat.reduceSub, Nat.reduceMul, reduceIte, reduceCtorEq, h0, h8, h9, g1] <;> rfl); (first
                      | (refine (s49 _).mono ?_; rintro _ τ2 ⟨rfl, hτ2⟩; rw [hτ2])); refine sk_id ?_))
                exact sk_stop ⟨f, by simp <;> omega, f, nx, false, rfl, hat.2.2.2, (by first | (simp only [go_sem, Nat.reduceLT, Nat.reduceLeDiff, Nat.reduceEqDiff, Nat.reduceAdd, Nat.reduceSub, Nat.reduceMul, reduceIte, reduceCtorEq, h0] <;> rfl) | fail), (by first | (simp only [go_sem, Nat.reduceLT, Nat.reduceLeDiff, Nat.reduceEqDiff, Nat.reduceAdd, Nat.reduceSub, Nat.reduceMul, reduceIte, reduceCtorEq, h8] <;> rfl) | fail), (by first | (simp only [go_sem, Nat.reduceLT, Nat.reduceLeDiff, Nat.reduceEqDiff, Nat.reduceAdd, Nat.reduceSub, Nat.reduceMul, reduceIte, reduceCtorEq] <;> rfl) | fail), rfl, fun h => (by cases h), fun _ => hR⟩
              · rw [if_pos rfl] at hR
                obtain ⟨q1, q2⟩ := hend rfl
                repeat (first
                  | refine sk_seq ?_
                  | refine sk_region ?_
                  | refine sk_ops_nil ?_
                  | refine sk_block ?_
                  | refine sk_blk ?_
                  | refine sk_skip ?_
                  | refine sk_exit rfl ?_
                  | ((first | (apply sk_r; rfl; rfl) | (apply sk_w; rfl; rfl) | (apply sk_i; rfl) | (apply sk_g; rfl; rfl)); (simp only [go_sem, Nat.reduceLT, Nat.reduceLeDiff, Nat.reduceEqDiff, Nat.reduceAdd, Nat.reduceSub, Nat.reduceMul, reduceIte, reduceCtorEq, h0, h8, h9, g1] <;> rfl); (first | refine sk_id ?_ | refine cs_t ?_ | refine cs_f ?_ | refine gs_t rfl ?_ | refine gs_f rfl ?_))
                  | ((first | (apply sk_c; rfl; rfl)); (simp only [go_sem, Nat.reduceLT, Nat.reduceLeDiff, Nat.reduceEqDiff, Nat.reduceAdd, Nat.reduceSub, Nat.reduceMul, reduceIte, reduceCtorEq, h0, h8, h9, g1] <;> rfl); (first
                      | (refine (s49 _).mono ?_; rintro _ τ2 ⟨rfl, hτ2⟩; rw [hτ2])); refine sk_id ?_))
                exact sk_stop ⟨f + 1, by simp <;> omega, f, nx, true, rfl, hat.2.2.2, (by first | (simp only [go_sem, Nat.reduceLT, Nat.reduceLeDiff, Nat.reduceEqDiff, Nat.reduceAdd, Nat.reduceSub, Nat.reduceMul, reduceIte, reduceCtorEq, h0] <;> rfl) | fail), (by first | (simp only [go_sem, Nat.reduceLT, Nat.reduceLeDiff, Nat.reduceEqDiff, Nat.reduceAdd, Nat.reduceSub, Nat.reduceMul, reduceIte, reduceCtorEq, h8] <;> rfl) | fail), (by first | (simp only [go_sem, Nat.reduceLT, Nat.reduceLeDiff, Nat.reduceEqDiff, Nat.reduceAdd, Nat.reduceSub, Nat.reduceMul, reduceIte, reduceCtorEq] <;> rfl) | fail), rfl, fun _ => ⟨by omega, hR⟩, fun h => (by cases h)⟩
          rintro fr τ ⟨h8, hτ⟩
          rw [hτ]
          have g1 := get_push_same σ (rdr s (atGo s (s.length + 1) T))
          repeat (first
            | refine sk_seq ?_
            | refine sk_region ?_
            | refine sk_ops_nil ?_
            | refine sk_block ?_
            | refine sk_blk ?_
            | refine sk_skip ?_
            | refine sk_exit rfl ?_
            | ((first | (apply sk_r; rfl; rfl) | (apply sk_w; rfl; rfl) | (apply sk_i; rfl) | (apply sk_g; rfl; rfl)); (simp only [go_sem, Nat.reduceLT, Nat.reduceLeDiff, Nat.reduceEqDiff, Nat.reduceAdd, Nat.reduceSub, Nat.reduceMul, reduceIte, reduceCtorEq, h8, g1] <;> rfl); (first | refine sk_id ?_ | refine cs_t ?_ | refine cs_f ?_ | refine gs_t rfl ?_ | refine gs_f rfl ?_)))
          exact sk_ret ⟨_, (by first | (simp only [aRet, Tryd.results35, aResults, aResult, go_sem, Nat.reduceLT, Nat.reduceLeDiff, Nat.reduceEqDiff, Nat.reduceAdd, Nat.reduceSub, Nat.reduceMul, reduceIte, reduceCtorEq] <;> rfl) | fail), rfl, kp _, rfl, rfl⟩
        · rw [if_neg hl]
          have hfin : ∀ b : Bool, True := fun _ => trivial
          -- no letter: whether there is a tag at all
          have f4 : IntKind.wrap .i64 ((p : Int)) = (p : Int) := wrap_i64 (by omega) (by omega)
          have sB := fun σ => f48_tr [33, 47, 63] c1 hc18 σ
          have hmk : (c1 = 33 ∨ c1 = 47 ∨ c1 = 63) ↔ c1 ∈ [33, 47, 63] := by simp
          have sU := upto_put (b := σ.next) (k := p) (d := s) (S := [62]) (by decide) (by omega) (by omega) (σ.push (rdr s p)) (get_push_same _ _)
          have tail : ∀ fr, fget fr 0 = .str s → fget fr 1 = .int .i64 (p : Nat) → fget fr 5 = .str r → True := fun _ _ _ _ => trivial
          by_cases hkl : k < s.length
          · obtain ⟨x, hx⟩ := at_some hkl
            have hxl : isLet x = false := by unfold letAt at hl; rw [hx] at hl; simpa using hl
            have hx8 := hd x (at_mem hx)
            have hs0 : (s.drop k)[0]? = some x := by rw [drop_some hx]; rfl
            have hne : beqL (s.drop k) [] = false := by rw [drop_some hx]; rfl
            have s53 := fun σ => f53_tr x hx8 σ
            rw [hxl] at s53
            by_cases hm3 : c1 = 33 ∨ c1 = 47 ∨ c1 = 63
            · have f5 : decide (idx [33, 47, 63] c1 ≥ 0) = true := (isIn_iff _ _).2 (hmk.1 hm3)
              rw [if_pos (by simpa using hm3)]
              repeat (first
                | refine sk_seq ?_
                | refine sk_region ?_
                | refine sk_ops_nil ?_
                | refine sk_block ?_
                | refine sk_blk ?_
                | refine sk_skip ?_
                | refine sk_exit rfl ?_
                | ((first | (apply sk_r; rfl; rfl) | (apply sk_w; rfl; rfl) | (apply sk_i; rfl) | (apply sk_g; rfl; rfl)); (simp only [go_sem, Nat.reduceLT, Nat.reduceLeDiff, Nat.reduceEqDiff, Nat.reduceAdd, Nat.reduceSub, Nat.reduceMul, reduceIte, reduceCtorEq, ← hr, e1, e2, f1, f2, f5, hr0, hr1, hs0, hne, and_self, Int.le_refl, List.take_length, Int.toNat_zero, Int.toNat_one, bytes_nil, Bool.not_false] <;> rfl); (first | refine sk_id ?_ | refine cs_t ?_ | refine cs_f ?_ | refine gs_t rfl ?_ | refine gs_f rfl ?_))
                | ((first | (apply sk_c; rfl; rfl)); (simp only [go_sem, Nat.reduceLT, Nat.reduceLeDiff, Nat.reduceEqDiff, Nat.reduceAdd, Nat.reduceSub, Nat.reduceMul, reduceIte, reduceCtorEq, ← hr, e1, e2, f1, f2, f5, hr0, hr1, hs0, hne, and_self, Int.le_refl, List.take_length, Int.toNat_zero, Int.toNat_one, bytes_nil, Bool.not_false] <;> rfl); (first
                    | (refine (s17 _).mono ?_; rintro _ τ2 ⟨rfl, hτ2⟩; rw [hτ2])
                    | (refine (s52 _).mono ?_; rintro _ τ2 ⟨rfl, hτ2⟩; rw [hτ2])
                    | (refine (s52b _).mono ?_; rintro _ τ2 ⟨rfl, hτ2⟩; rw [hτ2])
                    | (refine (s53 _).mono ?_; rintro _ τ2 ⟨rfl, hτ2⟩; rw [hτ2])
                    | (refine (sB _).mono ?_; rintro _ τ2 ⟨rfl, hτ2⟩; rw [hτ2])
                    | (refine sU.mono ?_; rintro _ τ2 ⟨x1, x2, rfl, hτ2⟩; rw [hτ2, put_push_same])); refine sk_id ?_))
              exact sk_ret ⟨_, (by first | (simp only [aRet, Tryd.results35, aResults, aResult, go_sem, Nat.reduceLT, Nat.reduceLeDiff, Nat.reduceEqDiff, Nat.reduceAdd, Nat.reduceSub, Nat.reduceMul, reduceIte, reduceCtorEq] <;> rfl) | fail), rfl, kp _, rfl, rfl⟩
            · have f5 : decide (idx [33, 47, 63] c1 ≥ 0) = false := by
                rw [idx_none (fun h => hm3 (hmk.2 h))]; rfl
              rw [if_neg (by simpa using hm3)]
              repeat (first
                | refine sk_seq ?_
                | refine sk_region ?_
                | refine sk_ops_nil ?_
                | refine sk_block ?_
                | refine sk_blk ?_
                | refine sk_skip ?_
                | refine sk_exit rfl ?_
                | ((first | (apply sk_r; rfl; rfl) | (apply sk_w; rfl; rfl) | (apply sk_i; rfl) | (apply sk_g; rfl; rfl)); (simp only [go_sem, Nat.reduceLT, Nat.reduceLeDiff, Nat.reduceEqDiff, Nat.reduceAdd, Nat.reduceSub, Nat.reduceMul, reduceIte, reduceCtorEq, ← hr, e1, e2, f1, f2, f5, hr0, hr1, hs0, hne, and_self, Int.le_refl, List.take_length, Int.toNat_zero, Int.toNat_one, bytes_nil, Bool.not_false] <;> rfl); (first | refine sk_id ?_ | refine cs_t ?_ | refine cs_f ?_ | refine gs_t rfl ?_ | refine gs_f rfl ?_))
                | ((first | (apply sk_c; rfl; rfl)); (simp only [go_sem, Nat.reduceLT, Nat.reduceLeDiff, Nat.reduceEqDiff, Nat.reduceAdd, Nat.reduceSub, Nat.reduceMul, reduceIte, reduceCtorEq, ← hr, e1, e2, f1, f2, f5, hr0, hr1, hs0, hne, and_self, Int.le_refl, List.take_length, Int.toNat_zero, Int.toNat_one, bytes_nil, Bool.not_false] <;> rfl); (first
                    | (refine (s17 _).mono ?_; rintro _ τ2 ⟨rfl, hτ2⟩; rw [hτ2])
                    | (refine (s52 _).mono ?_; rintro _ τ2 ⟨rfl, hτ2⟩; rw [hτ2])
                    | (refine (s52b _).mono ?_; rintro _ τ2 ⟨rfl, hτ2⟩; rw [hτ2])
                    | (refine (s53 _).mono ?_; rintro _ τ2 ⟨rfl, hτ2⟩; rw [hτ2])
                    | (refine (sB _).mono ?_; rintro _ τ2 ⟨rfl, hτ2⟩; rw [hτ2])); refine sk_id ?_))
              exact sk_ret ⟨_, (by first | (simp only [aRet, Tryd.results35, aResults, aResult, go_sem, Nat.reduceLT, Nat.reduceLeDiff, Nat.reduceEqDiff, Nat.reduceAdd, Nat.reduceSub, Nat.reduceMul, reduceIte, reduceCtorEq] <;> rfl) | fail), rfl, keepσ, rfl, rfl⟩
          · have hnil : s.drop k = [] := List.drop_eq_nil_of_le (by omega)
            rw [hnil] at s52b
            have hne : beqL ([] : List Nat) [] = true := rfl
            by_cases hm3 : c1 = 33 ∨ c1 = 47 ∨ c1 = 63
            · have f5 : decide (idx [33, 47, 63] c1 ≥ 0) = true := (isIn_iff _ _).2 (hmk.1 hm3)
              rw [if_pos (by simpa using hm3)]
              repeat (first
                | refine sk_seq ?_
                | refine sk_region ?_
                | refine sk_ops_nil ?_
                | refine sk_block ?_
                | refine sk_blk ?_
                | refine sk_skip ?_
                | refine sk_exit rfl ?_
                | ((first | (apply sk_r; rfl; rfl) | (apply sk_w; rfl; rfl) | (apply sk_i; rfl) | (apply sk_g; rfl; rfl)); (simp only [go_sem, Nat.reduceLT, Nat.reduceLeDiff, Nat.reduceEqDiff, Nat.reduceAdd, Nat.reduceSub, Nat.reduceMul, reduceIte, reduceCtorEq, ← hr, e1, e2, f1, f2, f5, hr0, hr1, hne, and_self, Int.le_refl, List.take_length, Int.toNat_zero, Int.toNat_one, bytes_nil, Bool.not_true] <;> rfl); (first | refine sk_id ?_ | refine cs_t ?_ | refine cs_f ?_ | refine gs_t rfl ?_ | refine gs_f rfl ?_))
                | ((first | (apply sk_c; rfl; rfl)); (simp only [go_sem, Nat.reduceLT, Nat.reduceLeDiff, Nat.reduceEqDiff, Nat.reduceAdd, Nat.reduceSub, Nat.reduceMul, reduceIte, reduceCtorEq, ← hr, e1, e2, f1, f2, f5, hr0, hr1, hne, and_self, Int.le_refl, List.take_length, Int.toNat_zero, Int.toNat_one, bytes_nil, Bool.not_true] <;> rfl); (first
                    | (refine (s17 _).mono ?_; rintro _ τ2 ⟨rfl, hτ2⟩; rw [hτ2])
                    | (refine (s52 _).mono ?_; rintro _ τ2 ⟨rfl, hτ2⟩; rw [hτ2])
                    | (refine (s52b _).mono ?_; rintro _ τ2 ⟨rfl, hτ2⟩; rw [hτ2])
                    | (refine (sB _).mono ?_; rintro _ τ2 ⟨rfl, hτ2⟩; rw [hτ2])
                    | (refine sU.mono ?_; rintro _ τ2 ⟨x1, x2, rfl, hτ2⟩; rw [hτ2, put_push_same])); refine sk_id ?_))
              exact sk_ret ⟨_, (by first | (simp only [aRet, Tryd.results35, aResults, aResult, go_sem, Nat.reduceLT, Nat.reduceLeDiff, Nat.reduceEqDiff, Nat.reduceAdd, Nat.reduceSub, Nat.reduceMul, reduceIte, reduceCtorEq] <;> rfl) | fail), rfl, kp _, rfl, rfl⟩
            · have f5 : decide (idx [33, 47, 63] c1 ≥ 0) = false := by
                rw [idx_none (fun h => hm3 (hmk.2 h))]; rfl
              rw [if_neg (by simpa using hm3)]
              repeat (first
                | refine sk_seq ?_
                | refine sk_region ?_
                | refine sk_ops_nil ?_
                | refine sk_block ?_
                | refine sk_blk ?_
                | refine sk_skip ?_
                | refine sk_exit rfl ?_
                | ((first | (apply sk_r; rfl; rfl) | (apply sk_w; rfl; rfl) | (apply sk_i; rfl) | (apply sk_g; rfl; rfl)); (simp only [go_sem, Nat.reduceLT, Nat.reduceLeDiff, Nat.reduceEqDiff, Nat.reduceAdd, Nat.reduceSub, Nat.reduceMul, reduceIte, reduceCtorEq, ← hr, e1, e2, f1, f2, f5, hr0, hr1, hne, and_self, Int.le_refl, List.take_length, Int.toNat_zero, Int.toNat_one, bytes_nil, Bool.not_true] <;> rfl); (first | refine sk_id ?_ | refine cs_t ?_ | refine cs_f ?_ | refine gs_t rfl ?_ | refine gs_f rfl ?_))
                | ((first | (apply sk_c; rfl; rfl)); (simp only [go_sem, Nat.reduceLT, Nat.reduceLeDiff, Nat.reduceEqDiff, Nat.reduceAdd, Nat.reduceSub, Nat.reduceMul, reduceIte, reduceCtorEq, ← hr, e1, e2, f1, f2, f5, hr0, hr1, hne, and_self, Int.le_refl, List.take_length, Int.toNat_zero, Int.toNat_one, bytes_nil, Bool.not_true] <;> rfl); (first
                    | (refine (s17 _).mono ?_; rintro _ τ2 ⟨rfl, hτ2⟩; rw [hτ2])
                    | (refine (s52 _).mono ?_; rintro _ τ2 ⟨rfl, hτ2⟩; rw [hτ2])
                    | (refine (s52b _).mono ?_; rintro _ τ2 ⟨rfl, hτ2⟩; rw [hτ2])
                    | (refine (sB _).mono ?_; rintro _ τ2 ⟨rfl, hτ2⟩; rw [hτ2])); refine sk_id ?_))
              exact sk_ret ⟨_, (by first | (simp only [aRet, Tryd.results35, aResults, aResult, go_sem, Nat.reduceLT, Nat.reduceLeDiff, Nat.reduceEqDiff, Nat.reduceAdd, Nat.reduceSub, Nat.reduceMul, reduceIte, reduceCtorEq] <;> rfl) | fail), rfl, keepσ, rfl, rfl⟩
    · rw [if_pos (.inl (by simpa using hc60))]
      have f1 : ((c : Int) != 60) = true := by simp; omega
      repeat (first
        | refine sk_seq ?_
        | refine sk_region ?_
        | refine sk_ops_nil ?_
        | refine sk_block ?_
        | refine sk_blk ?_
        | refine sk_skip ?_
        | refine sk_exit rfl ?_
        | ((first | (apply sk_r; rfl; rfl) | (apply sk_w; rfl; rfl) | (apply sk_i; rfl) | (apply sk_g; rfl; rfl)); (simp only [go_sem, Nat.reduceLT, Nat.reduceLeDiff, Nat.reduceEqDiff, Nat.reduceAdd, Nat.reduceSub, Nat.reduceMul, reduceIte, reduceCtorEq, ← hr, e1, e2, f1, hr0, and_self, Int.le_refl, List.take_length, Int.toNat_zero] <;> rfl); (first | refine sk_id ?_ | refine cs_t ?_ | refine cs_f ?_ | refine gs_t rfl ?_ | refine gs_f rfl ?_))
        | ((first | (apply sk_c; rfl; rfl)); (simp only [go_sem, Nat.reduceLT, Nat.reduceLeDiff, Nat.reduceEqDiff, Nat.reduceAdd, Nat.reduceSub, Nat.reduceMul, reduceIte, reduceCtorEq, ← hr, e1, e2, f1, hr0, and_self, Int.le_refl, List.take_length, Int.toNat_zero] <;> rfl); (first
            | (refine (s17 _).mono ?_; rintro _ τ2 ⟨rfl, hτ2⟩; rw [hτ2])
            | (refine (s52 _).mono ?_; rintro _ τ2 ⟨rfl, hτ2⟩; rw [hτ2])
            | (refine (f52_tr _ [47] _).mono ?_; rintro _ τ2 ⟨rfl, hτ2⟩; rw [hτ2])); refine sk_id ?_))
      exact sk_ret ⟨_, (by first | (simp only [aRet, Tryd.results35, aResults, aResult, go_sem, Nat.reduceLT, Nat.reduceLeDiff, Nat.reduceEqDiff, Nat.reduceAdd, Nat.reduceSub, Nat.reduceMul, reduceIte, reduceCtorEq] <;> rfl) | fail), rfl, keepσ, rfl, rfl⟩
end Go.Proofs.YtophnlmdcidolaaDoor
