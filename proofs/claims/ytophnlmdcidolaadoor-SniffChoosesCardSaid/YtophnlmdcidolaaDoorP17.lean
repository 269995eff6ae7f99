import Derived.Test.YtophnlmdcidolaaDoorP16
import Derived.Test.YtophnlmdcidolaaDoorS
set_option linter.all false
namespace Go.Am
/-- no letter -/
def NL (x : Nat) : Prop := ¬(97 ≤ x ∧ x ≤ 122) ∧ ¬(65 ≤ x ∧ x ≤ 90)
theorem low_nl {c x : Nat} (hx : NL x) : low c = x ↔ c = x := by
  unfold NL at hx
  unfold low
  split
  · constructor <;> intro h <;> omega
  · exact Iff.rfl
theorem mapLow : ∀ {w l : List Nat}, (∀ x ∈ w, NL x) → (l.map low = w ↔ l = w)
  | [], [], _ => by simp
  | [], _ :: _, _ => by simp
  | _ :: _, [], _ => by simp
  | x :: w, c :: l, h => by
    simp only [List.map_cons, List.cons.injEq]
    rw [low_nl (h x (by simp)), mapLow fun y hy => h y (by simp [hy])]
theorem stands_plain {s w : List Nat} {k : Nat} (h : ∀ x ∈ w, NL x) (hk : k ≤ s.length) : standsAt s k w = w.isPrefixOf (s.drop k) := by
  unfold standsAt
  rw [Bool.eq_iff_iff, Bool.and_eq_true, decide_eq_true_eq, decide_eq_true_eq, List.isPrefixOf_iff_prefix, List.prefix_iff_eq_take, mapLow h]
  rw [List.drop_take, show k + w.length - k = w.length by omega]
  constructor
  · rintro ⟨_, h⟩; exact h.symm
  · intro h
    have hl := congrArg List.length h
    simp only [List.length_take, List.length_drop] at hl
    exact ⟨by omega, h.symm⟩
theorem isPre_pre (w l : List Nat) : w.isPrefixOf l = Am.pre w l := by
  unfold Am.pre
  rw [Bool.eq_iff_iff, decide_eq_true_eq, List.isPrefixOf_iff_prefix, List.prefix_iff_eq_take]
  exact eq_comm
end Go.Am
namespace Go.Proofs.YtophnlmdcidolaaDoor
open Go Go.Am
set_option maxHeartbeats 8000000
set_option maxRecDepth 100000
theorem isInE (c : Nat) : isIn E6 c = (isIn B5 c || decide (c = 62)) := by
  rw [Bool.eq_iff_iff, isIn_iff, Bool.or_eq_true, isIn_iff, decide_eq_true_eq]
  simp only [List.mem_cons, List.not_mem_nil, or_false]
  omega
abbrev C4w : List Nat := [60, 33, 45, 45]
abbrev C3w : List Nat := [45, 45, 62]
theorem f9_tr (d : List Nat) (hd : ∀ c ∈ d, c < 256) (σ : AHeap) :
    Tr Tryd.prog 9 [.str d] σ fun v σ' => v = prescanAV (prescanOf d) ∧ σ' = σ := by
  refine sk_body (m := 168) Tryd.func9 rfl (by decide) rfl ?_
  have kM : bytesOf { data := #[60, 109, 101, 116, 97] } = M5 := rfl
  have kC : bytesOf { data := #[60, 33, 45, 45] } = C4w := rfl
  have kD : bytesOf { data := #[45, 45, 62] } = C3w := rfl
  obtain ⟨s, hs⟩ : ∃ s, s = d.take 1024 := ⟨_, rfl⟩
  have hsd : ∀ c ∈ s, c < 256 := fun c hc => hd c (List.mem_of_mem_take (hs ▸ hc))
  have hsl : s.length ≤ 1024 := by rw [hs, List.length_take]; omega
  have hres : prescanOf d = prescanGo s (s.length + 1) 0 := by unfold prescanOf; rw [← hs]
  rw [hres]
  repeat (first
    | refine sk_seq ?_
    | refine sk_region ?_
    | refine sk_ops_nil ?_
    | refine sk_block ?_
    | refine sk_blk ?_
    | refine sk_skip ?_
    | refine sk_exit rfl ?_
    | ((first | (apply sk_r; rfl; rfl) | (apply sk_w; rfl; rfl) | (apply sk_i; rfl) | (apply sk_g; rfl; rfl)); (simp only [go_sem, Nat.reduceLT, Nat.reduceLeDiff, Nat.reduceEqDiff, Nat.reduceAdd, Nat.reduceSub, Nat.reduceMul, reduceIte, reduceCtorEq] <;> rfl); (first | refine sk_id ?_ | refine cs_t ?_ | refine cs_f ?_ | refine gs_t rfl ?_ | refine gs_f rfl ?_)))
  refine sk_join (fun fr σ' => σ' = σ ∧ fget fr 0 = .str s) ?_ ?_
  · by_cases h : d.length > 1024
    · have e1 : decide ((d.length : Int) > 1024) = true := decide_eq_true (by omega)
      have e2 : (1024 : Int) ≤ (d.length : Int) := by omega
      have e0 : (0 : Int) ≤ 1024 := by omega
      have t1 : Int.toNat 1024 = 1024 := rfl
      repeat (first
        | refine sk_seq ?_
        | refine sk_region ?_
        | refine sk_ops_nil ?_
        | refine sk_block ?_
        | refine sk_blk ?_
        | refine sk_skip ?_
        | refine sk_exit rfl ?_
        | ((first | (apply sk_r; rfl; rfl) | (apply sk_w; rfl; rfl) | (apply sk_i; rfl) | (apply sk_g; rfl; rfl)); (simp only [go_sem, Nat.reduceLT, Nat.reduceLeDiff, Nat.reduceEqDiff, Nat.reduceAdd, Nat.reduceSub, Nat.reduceMul, reduceIte, reduceCtorEq, e0, e1, e2, t1, ← hs, and_self, Int.le_refl, List.drop_zero, Int.toNat_zero] <;> rfl); (first | refine sk_id ?_ | refine cs_t ?_ | refine cs_f ?_ | refine gs_t rfl ?_ | refine gs_f rfl ?_)))
      exact sk_end ⟨rfl, (by first | (simp only [go_sem, Nat.reduceLT, Nat.reduceLeDiff, Nat.reduceEqDiff, Nat.reduceAdd, Nat.reduceSub, Nat.reduceMul, reduceIte, reduceCtorEq] <;> rfl) | fail)⟩
    · have e1 : decide ((d.length : Int) > 1024) = false := decide_eq_false (by omega)
      repeat (first
        | refine sk_seq ?_
        | refine sk_region ?_
        | refine sk_ops_nil ?_
        | refine sk_block ?_
        | refine sk_blk ?_
        | refine sk_skip ?_
        | refine sk_exit rfl ?_
        | ((first | (apply sk_r; rfl; rfl) | (apply sk_w; rfl; rfl) | (apply sk_i; rfl) | (apply sk_g; rfl; rfl)); (simp only [go_sem, Nat.reduceLT, Nat.reduceLeDiff, Nat.reduceEqDiff, Nat.reduceAdd, Nat.reduceSub, Nat.reduceMul, reduceIte, reduceCtorEq, e1] <;> rfl); (first | refine sk_id ?_ | refine cs_t ?_ | refine cs_f ?_ | refine gs_t rfl ?_ | refine gs_f rfl ?_)))
      rw [hs, List.take_of_length_le (by omega)]
      exact sk_end ⟨rfl, (by first | (simp only [go_sem, Nat.reduceLT, Nat.reduceLeDiff, Nat.reduceEqDiff, Nat.reduceAdd, Nat.reduceSub, Nat.reduceMul, reduceIte, reduceCtorEq] <;> rfl) | fail)⟩
  rintro fr τ ⟨hτ, h0⟩
  rw [hτ]
  clear hτ hres hs hd
  repeat (first
    | refine sk_seq ?_
    | refine sk_region ?_
    | refine sk_ops_nil ?_
    | refine sk_block ?_
    | refine sk_blk ?_
    | refine sk_skip ?_
    | refine sk_exit rfl ?_
    | ((first | (apply sk_r; rfl; rfl) | (apply sk_w; rfl; rfl) | (apply sk_i; rfl) | (apply sk_g; rfl; rfl)); (simp only [go_sem, Nat.reduceLT, Nat.reduceLeDiff, Nat.reduceEqDiff, Nat.reduceAdd, Nat.reduceSub, Nat.reduceMul, reduceIte, reduceCtorEq, h0] <;> rfl); (first | refine sk_id ?_ | refine cs_t ?_ | refine cs_f ?_ | refine gs_t rfl ?_ | refine gs_f rfl ?_)))
  refine sk_cut (fun fr σ' => σ' = σ ∧ prescanGo s (s.length + 1) 0 = none) ?_ ?_
  · refine sk_loop (fun m fr σ' => ∃ f p, m = f ∧ s.length - p < f ∧ p ≤ s.length + 1 ∧ prescanGo s f p = prescanGo s (s.length + 1) 0 ∧ σ' = σ ∧ fget fr 0 = .str s ∧ fget fr 4 = .int .i64 (p : Nat)) _
      ⟨s.length + 1, 0, rfl, by omega, by omega, rfl, rfl, (by first | (simp only [go_sem, Nat.reduceLT, Nat.reduceLeDiff, Nat.reduceEqDiff, Nat.reduceAdd, Nat.reduceSub, Nat.reduceMul, reduceIte, reduceCtorEq, h0] <;> rfl) | fail), (by first | (simp only [go_sem, Nat.reduceLT, Nat.reduceLeDiff, Nat.reduceEqDiff, Nat.reduceAdd, Nat.reduceSub, Nat.reduceMul, reduceIte, reduceCtorEq] <;> rfl) | fail)⟩ ?_
    clear h0
    rintro f fr τ ⟨_, p, rfl, hf, hpl, hR, hτ, h0, h4⟩
    rw [hτ]
    obtain ⟨f, rfl⟩ : ∃ g, f = g + 1 := ⟨f - 1, by omega⟩
    by_cases hp : p < s.length
    · have f1 : decide ((p : Int) < (s.length : Int)) = true := decide_eq_true (by omega)
      have f2 : IntKind.wrap .i64 ((p : Int) + 1) = ((p + 1 : Nat) : Int) := wrap_i64 (by omega) (by omega)
      have f3 : IntKind.wrap .i64 ((p : Int) + 2) = ((p + 2 : Nat) : Int) := wrap_i64 (by omega) (by omega)
      have f4 : (0 : Int) ≤ (p : Int) := by omega
      have f5 : IntKind.wrap .i64 ((p : Int) + 5) = ((p + 5 : Nat) : Int) := wrap_i64 (by omega) (by omega)
      have hsk := skipOf_all hsd hp
      obtain ⟨c, hc⟩ := at_some hp
      rw [prescanGo, if_pos hp] at hR
      have noMeta : standsAt s p M5 = false → metaAt s p = false := fun h => by unfold metaAt; rw [h]; rfl
      by_cases hc60 : c = 60
      · have g1 : ((c : Int) != 60) = false := by simp [hc60]
        by_cases hp1 : p + 1 = s.length
        · have g2 : (((p + 1 : Nat) : Int) == (s.length : Int)) = true := by simp; omega
          have hma : metaAt s p = false := by
            cases e : metaAt s p
            · rfl
            · have := metaAt_lt e; omega
          have hso : skipOf s p = p := by unfold skipOf; rw [if_pos (.inr hp1)]
          rw [if_neg (by simp [hma]), hso] at hR
          repeat (first
            | refine sk_seq ?_
            | refine sk_region ?_
            | refine sk_ops_nil ?_
            | refine sk_block ?_
            | refine sk_blk ?_
            | refine sk_skip ?_
            | refine sk_exit rfl ?_
            | ((first | (apply sk_r; rfl; rfl) | (apply sk_w; rfl; rfl) | (apply sk_i; rfl) | (apply sk_g; rfl; rfl)); (simp only [go_sem, Nat.reduceLT, Nat.reduceLeDiff, Nat.reduceEqDiff, Nat.reduceAdd, Nat.reduceSub, Nat.reduceMul, reduceIte, reduceCtorEq, h0, h4, f1, f2, f4, g1, g2, hc] <;> rfl); (first | refine sk_id ?_ | refine cs_t ?_ | refine cs_f ?_ | refine gs_t rfl ?_ | refine gs_f rfl ?_)))
          exact sk_stop ⟨f, by omega, f, _, rfl, by omega, by omega, hR, rfl, (by first | (simp only [go_sem, Nat.reduceLT, Nat.reduceLeDiff, Nat.reduceEqDiff, Nat.reduceAdd, Nat.reduceSub, Nat.reduceMul, reduceIte, reduceCtorEq, h0] <;> rfl) | fail), (by first | (simp only [go_sem, Nat.reduceLT, Nat.reduceLeDiff, Nat.reduceEqDiff, Nat.reduceAdd, Nat.reduceSub, Nat.reduceMul, reduceIte, reduceCtorEq] <;> rfl) | fail)⟩
        · have g2 : (((p + 1 : Nat) : Int) == (s.length : Int)) = false := by simp; omega
          have s19 := fun σ => f19_tr s C4w p hsd (by omega) (by omega) (by decide) σ
          have e4 : standsAt s p C4w = pre C4w (s.drop p) := by rw [stands_plain (by unfold NL; decide) (by omega), isPre_pre]
          obtain ⟨c1, hc1⟩ := at_some (d := s) (k := p + 1) (by omega)
          have hc18 := hsd c1 (at_mem hc1)
          cases hw : pre C4w (s.drop p)
          · rw [e4, hw] at s19
            have s19m := fun σ => f19_tr s M5 p hsd (by omega) (by omega) (by decide) σ
            repeat (first
              | refine sk_seq ?_
              | refine sk_region ?_
              | refine sk_ops_nil ?_
              | refine sk_block ?_
              | refine sk_blk ?_
              | refine sk_skip ?_
              | refine sk_exit rfl ?_
              | ((first | (apply sk_r; rfl; rfl) | (apply sk_w; rfl; rfl) | (apply sk_i; rfl) | (apply sk_g; rfl; rfl)); (simp only [go_sem, Nat.reduceLT, Nat.reduceLeDiff, Nat.reduceEqDiff, Nat.reduceAdd, Nat.reduceSub, Nat.reduceMul, reduceIte, reduceCtorEq, h0, h4, f1, f2, f3, f4, g1, g2, hc, kC] <;> rfl); (first | refine sk_id ?_ | refine cs_t ?_ | refine cs_f ?_ | refine gs_t rfl ?_ | refine gs_f rfl ?_))
              | ((first | (apply sk_c; rfl; rfl)); (simp only [go_sem, Nat.reduceLT, Nat.reduceLeDiff, Nat.reduceEqDiff, Nat.reduceAdd, Nat.reduceSub, Nat.reduceMul, reduceIte, reduceCtorEq, h0, h4, f1, f2, f3, f4, g1, g2, hc, kC] <;> rfl); (first
                  | (refine (s19 _).mono ?_; rintro _ τ2 ⟨rfl, hτ2⟩; rw [hτ2])); refine sk_id ?_))
            refine sk_split2 (fun fr σ' => σ' = σ ∧ metaAt s p = false ∧ fget fr 0 = .str s ∧ fget fr 4 = .int .i64 (p : Nat)) ?_ ?_
            · cases hM : standsAt s p M5
              · rw [hM] at s19m
                repeat (first
                  | refine sk_seq ?_
                  | refine sk_region ?_
                  | refine sk_ops_nil ?_
                  | refine sk_block ?_
                  | refine sk_blk ?_
                  | refine sk_skip ?_
                  | refine sk_exit rfl ?_
                  | ((first | (apply sk_r; rfl; rfl) | (apply sk_w; rfl; rfl) | (apply sk_i; rfl) | (apply sk_g; rfl; rfl)); (simp only [go_sem, Nat.reduceLT, Nat.reduceLeDiff, Nat.reduceEqDiff, Nat.reduceAdd, Nat.reduceSub, Nat.reduceMul, reduceIte, reduceCtorEq, h0, h4, kM] <;> rfl); (first | refine sk_id ?_ | refine cs_t ?_ | refine cs_f ?_ | refine gs_t rfl ?_ | refine gs_f rfl ?_))
                  | ((first | (apply sk_c; rfl; rfl)); (simp only [go_sem, Nat.reduceLT, Nat.reduceLeDiff, Nat.reduceEqDiff, Nat.reduceAdd, Nat.reduceSub, Nat.reduceMul, reduceIte, reduceCtorEq, h0, h4, kM] <;> rfl); (first
                      | (refine (s19m _).mono ?_; rintro _ τ2 ⟨rfl, hτ2⟩; rw [hτ2])); refine sk_id ?_))
                exact sk_end ⟨rfl, noMeta hM, (by first | (simp only [go_sem, Nat.reduceLT, Nat.reduceLeDiff, Nat.reduceEqDiff, Nat.reduceAdd, Nat.reduceSub, Nat.reduceMul, reduceIte, reduceCtorEq, h0] <;> rfl) | fail), (by first | (simp only [go_sem, Nat.reduceLT, Nat.reduceLeDiff, Nat.reduceEqDiff, Nat.reduceAdd, Nat.reduceSub, Nat.reduceMul, reduceIte, reduceCtorEq, h4] <;> rfl) | fail)⟩
              · rw [hM] at s19m
                have hM5 : p + 5 ≤ s.length := by
                  unfold standsAt at hM
                  rw [Bool.and_eq_true, decide_eq_true_eq] at hM
                  exact hM.1
                by_cases hl5 : p + 5 < s.length
                · obtain ⟨c5, hc5⟩ := at_some hl5
                  have q1 : decide (((p + 5 : Nat) : Int) < (s.length : Int)) = true := decide_eq_true (by omega)
                  have q2 : (0 : Int) ≤ ((p + 5 : Nat) : Int) := by omega
                  have hmA : metaAt s p = (isIn B5 c5 || decide (c5 = 47)) := by unfold metaAt; rw [hM, hc5]; rfl
                  have s20 := fun σ => f20_tr c5 σ
                  have s21 := fun σ => f21_tr (p + 5) s hsd (by omega) (by omega) σ
                  have hmr := metaOf_all hsd (k := p + 5) (by omega)
                  have f9 : IntKind.wrap .i64 (((metaOf s (p + 5)).2 : Int) + 1) = (((metaOf s (p + 5)).2 + 1 : Nat) : Int) := wrap_i64 (by omega) (by omega)
                  obtain ⟨⟨nm, en⟩, hmo⟩ : ∃ r, metaOf s (p + 5) = r := ⟨_, rfl⟩
                  rw [hmo] at hmr f9 s21 hR
                  simp only [metaAV] at hmr f9 s21 hR
                  have meta_case : ∀ (bl q5 : Bool), isIn [9, 10, 12, 13, 32] c5 = bl → ((c5 : Int) == 47) = q5 → metaAt s p = (bl || q5) := by
                    intro bl q5 e1 e2
                    rw [hmA]
                    have e3 : decide (c5 = 47) = ((c5 : Int) == 47) := by
                      by_cases h : c5 = 47
                      · simp [h]
                      · rw [decide_eq_false h]; simp; omega
                    rw [e3, e2, show isIn B5 c5 = isIn [9, 10, 12, 13, 32] c5 from rfl, e1]
                  obtain ⟨bl, hbl⟩ : ∃ bl, isIn [9, 10, 12, 13, 32] c5 = bl := ⟨_, rfl⟩
                  obtain ⟨q5, hq5⟩ : ∃ q5, ((c5 : Int) == 47) = q5 := ⟨_, rfl⟩
                  have hmc := meta_case bl q5 hbl hq5
                  rw [hbl] at s20
                  cases bl <;> cases q5
                  · repeat (first
                      | refine sk_seq ?_
                      | refine sk_region ?_
                      | refine sk_ops_nil ?_
                      | refine sk_block ?_
                      | refine sk_blk ?_
                      | refine sk_skip ?_
                      | refine sk_exit rfl ?_
                      | ((first | (apply sk_r; rfl; rfl) | (apply sk_w; rfl; rfl) | (apply sk_i; rfl) | (apply sk_g; rfl; rfl)); (simp only [go_sem, Nat.reduceLT, Nat.reduceLeDiff, Nat.reduceEqDiff, Nat.reduceAdd, Nat.reduceSub, Nat.reduceMul, reduceIte, reduceCtorEq, h0, h4, kM, f5, q1, q2, hq5, hc5] <;> rfl); (first | refine sk_id ?_ | refine cs_t ?_ | refine cs_f ?_ | refine gs_t rfl ?_ | refine gs_f rfl ?_))
                      | ((first | (apply sk_c; rfl; rfl)); (simp only [go_sem, Nat.reduceLT, Nat.reduceLeDiff, Nat.reduceEqDiff, Nat.reduceAdd, Nat.reduceSub, Nat.reduceMul, reduceIte, reduceCtorEq, h0, h4, kM, f5, q1, q2, hq5, hc5] <;> rfl); (first
                          | (refine (s19m _).mono ?_; rintro _ τ2 ⟨rfl, hτ2⟩; rw [hτ2])
                          | (refine (s20 _).mono ?_; rintro _ τ2 ⟨rfl, hτ2⟩; rw [hτ2])); refine sk_id ?_))
                    exact sk_end ⟨rfl, hmc, (by first | (simp only [go_sem, Nat.reduceLT, Nat.reduceLeDiff, Nat.reduceEqDiff, Nat.reduceAdd, Nat.reduceSub, Nat.reduceMul, reduceIte, reduceCtorEq, h0] <;> rfl) | fail), (by first | (simp only [go_sem, Nat.reduceLT, Nat.reduceLeDiff, Nat.reduceEqDiff, Nat.reduceAdd, Nat.reduceSub, Nat.reduceMul, reduceIte, reduceCtorEq, h4] <;> rfl) | fail)⟩
                  all_goals
                    rw [if_pos (by rw [hmc]; rfl)] at hR
                    by_cases hn : nm = []
                    · have g6 : beqL nm [] = true := by rw [beqL_eq]; exact decide_eq_true hn
                      rw [if_pos hn] at hR
                      repeat (first
                        | refine sk_seq ?_
                        | refine sk_region ?_
                        | refine sk_ops_nil ?_
                        | refine sk_block ?_
                        | refine sk_blk ?_
                        | refine sk_skip ?_
                        | refine sk_exit rfl ?_
                        | ((first | (apply sk_r; rfl; rfl) | (apply sk_w; rfl; rfl) | (apply sk_i; rfl) | (apply sk_g; rfl; rfl)); (simp only [go_sem, Nat.reduceLT, Nat.reduceLeDiff, Nat.reduceEqDiff, Nat.reduceAdd, Nat.reduceSub, Nat.reduceMul, reduceIte, reduceCtorEq, h0, h4, kM, f5, q1, q2, hq5, hc5, g6, bytes_nil, Bool.not_true] <;> rfl); (first | refine sk_id ?_ | refine cs_t ?_ | refine cs_f ?_ | refine gs_t rfl ?_ | refine gs_f rfl ?_))
                        | ((first | (apply sk_c; rfl; rfl)); (simp only [go_sem, Nat.reduceLT, Nat.reduceLeDiff, Nat.reduceEqDiff, Nat.reduceAdd, Nat.reduceSub, Nat.reduceMul, reduceIte, reduceCtorEq, h0, h4, kM, f5, q1, q2, hq5, hc5, g6, bytes_nil, Bool.not_true] <;> rfl); (first
                            | (refine (s19m _).mono ?_; rintro _ τ2 ⟨rfl, hτ2⟩; rw [hτ2])
                            | (refine (s20 _).mono ?_; rintro _ τ2 ⟨rfl, hτ2⟩; rw [hτ2])
                            | (refine (s21 _).mono ?_; rintro _ τ2 ⟨rfl, hτ2⟩; rw [hτ2])); refine sk_id ?_))
                      refine sk_cut_exit rfl rfl ?_
                      repeat (first
                        | refine sk_seq ?_
                        | refine sk_region ?_
                        | refine sk_ops_nil ?_
                        | refine sk_block ?_
                        | refine sk_blk ?_
                        | refine sk_skip ?_
                        | refine sk_exit rfl ?_
                        | ((first | (apply sk_r; rfl; rfl) | (apply sk_w; rfl; rfl) | (apply sk_i; rfl) | (apply sk_g; rfl; rfl)); (simp only [go_sem, Nat.reduceLT, Nat.reduceLeDiff, Nat.reduceEqDiff, Nat.reduceAdd, Nat.reduceSub, Nat.reduceMul, reduceIte, reduceCtorEq, h0, h4, f9] <;> rfl); (first | refine sk_id ?_ | refine cs_t ?_ | refine cs_f ?_ | refine gs_t rfl ?_ | refine gs_f rfl ?_)))
                      exact sk_stop ⟨f, by omega, f, _, rfl, by omega, by omega, hR, rfl, (by first | (simp only [go_sem, Nat.reduceLT, Nat.reduceLeDiff, Nat.reduceEqDiff, Nat.reduceAdd, Nat.reduceSub, Nat.reduceMul, reduceIte, reduceCtorEq, h0] <;> rfl) | fail), (by first | (simp only [go_sem, Nat.reduceLT, Nat.reduceLeDiff, Nat.reduceEqDiff, Nat.reduceAdd, Nat.reduceSub, Nat.reduceMul, reduceIte, reduceCtorEq] <;> rfl) | fail)⟩
                    · have g6 : beqL nm [] = false := by rw [beqL_eq]; exact decide_eq_false hn
                      rw [if_neg hn] at hR
                      repeat (first
                        | refine sk_seq ?_
                        | refine sk_region ?_
                        | refine sk_ops_nil ?_
                        | refine sk_block ?_
                        | refine sk_blk ?_
                        | refine sk_skip ?_
                        | refine sk_exit rfl ?_
                        | ((first | (apply sk_r; rfl; rfl) | (apply sk_w; rfl; rfl) | (apply sk_i; rfl) | (apply sk_g; rfl; rfl)); (simp only [go_sem, Nat.reduceLT, Nat.reduceLeDiff, Nat.reduceEqDiff, Nat.reduceAdd, Nat.reduceSub, Nat.reduceMul, reduceIte, reduceCtorEq, h0, h4, kM, f5, q1, q2, hq5, hc5, g6, bytes_nil, Bool.not_false] <;> rfl); (first | refine sk_id ?_ | refine cs_t ?_ | refine cs_f ?_ | refine gs_t rfl ?_ | refine gs_f rfl ?_))
                        | ((first | (apply sk_c; rfl; rfl)); (simp only [go_sem, Nat.reduceLT, Nat.reduceLeDiff, Nat.reduceEqDiff, Nat.reduceAdd, Nat.reduceSub, Nat.reduceMul, reduceIte, reduceCtorEq, h0, h4, kM, f5, q1, q2, hq5, hc5, g6, bytes_nil, Bool.not_false] <;> rfl); (first
                            | (refine (s19m _).mono ?_; rintro _ τ2 ⟨rfl, hτ2⟩; rw [hτ2])
                            | (refine (s20 _).mono ?_; rintro _ τ2 ⟨rfl, hτ2⟩; rw [hτ2])
                            | (refine (s21 _).mono ?_; rintro _ τ2 ⟨rfl, hτ2⟩; rw [hτ2])); refine sk_id ?_))
                      exact sk_cut_ret (sk_ret_pass ⟨_, (by first | (simp only [aRet, Tryd.results9, aResults, aResult, go_sem, Nat.reduceLT, Nat.reduceLeDiff, Nat.reduceEqDiff, Nat.reduceAdd, Nat.reduceSub, Nat.reduceMul, reduceIte, reduceCtorEq] <;> rfl) | fail), by rw [← hR]; rfl, rfl⟩)
                · have q1 : decide (((p + 5 : Nat) : Int) < (s.length : Int)) = false := decide_eq_false (by omega)
                  have hma : metaAt s p = false := by
                    cases e : metaAt s p
                    · rfl
                    · have := metaAt_lt e; omega
                  repeat (first
                    | refine sk_seq ?_
                    | refine sk_region ?_
                    | refine sk_ops_nil ?_
                    | refine sk_block ?_
                    | refine sk_blk ?_
                    | refine sk_skip ?_
                    | refine sk_exit rfl ?_
                    | ((first | (apply sk_r; rfl; rfl) | (apply sk_w; rfl; rfl) | (apply sk_i; rfl) | (apply sk_g; rfl; rfl)); (simp only [go_sem, Nat.reduceLT, Nat.reduceLeDiff, Nat.reduceEqDiff, Nat.reduceAdd, Nat.reduceSub, Nat.reduceMul, reduceIte, reduceCtorEq, h0, h4, kM, f5, q1] <;> rfl); (first | refine sk_id ?_ | refine cs_t ?_ | refine cs_f ?_ | refine gs_t rfl ?_ | refine gs_f rfl ?_))
                    | ((first | (apply sk_c; rfl; rfl)); (simp only [go_sem, Nat.reduceLT, Nat.reduceLeDiff, Nat.reduceEqDiff, Nat.reduceAdd, Nat.reduceSub, Nat.reduceMul, reduceIte, reduceCtorEq, h0, h4, kM, f5, q1] <;> rfl); (first
                        | (refine (s19m _).mono ?_; rintro _ τ2 ⟨rfl, hτ2⟩; rw [hτ2])); refine sk_id ?_))
                  exact sk_end ⟨rfl, hma, (by first | (simp only [go_sem, Nat.reduceLT, Nat.reduceLeDiff, Nat.reduceEqDiff, Nat.reduceAdd, Nat.reduceSub, Nat.reduceMul, reduceIte, reduceCtorEq, h0] <;> rfl) | fail), (by first | (simp only [go_sem, Nat.reduceLT, Nat.reduceLeDiff, Nat.reduceEqDiff, Nat.reduceAdd, Nat.reduceSub, Nat.reduceMul, reduceIte, reduceCtorEq, h4] <;> rfl) | fail)⟩
            clear h0 h4 hτ
            rintro fr τ ⟨hτ, hma, h0, h4⟩
            rw [hτ]
            rw [if_neg (by simp [hma])] at hR
            have f8 : IntKind.wrap .i64 (((skipOf s p : Nat) : Int) + 1) = ((skipOf s p + 1 : Nat) : Int) := wrap_i64 (by omega) (by omega)
            have hso : skipOf s p = if letAt s (tagAt s p) then atGo s (s.length + 1) (run (fun c => !isIn E6 c) s (tagAt s p)) else if c1 = 33 ∨ c1 = 47 ∨ c1 = 63 then run (fun c => !isIn [62] c) s p else p := by
              unfold skipOf
              rw [if_neg (by rw [hc, hc60]; simp [hp1]), if_neg (by rw [hw]; simp), hc1]
              simp only [Option.some.injEq]
            have hkt := tagAt_le (s := s) (p := p) (by omega)
            obtain ⟨k, hk⟩ : ∃ k, k = tagAt s p := ⟨_, rfl⟩
            rw [← hk] at hso hkt
            have q2 : (0 : Int) ≤ ((p + 1 : Nat) : Int) := by omega
            repeat (first
              | refine sk_seq ?_
              | refine sk_region ?_
              | refine sk_ops_nil ?_
              | refine sk_block ?_
              | refine sk_blk ?_
              | refine sk_skip ?_
              | refine sk_exit rfl ?_
              | ((first | (apply sk_r; rfl; rfl) | (apply sk_w; rfl; rfl) | (apply sk_i; rfl) | (apply sk_g; rfl; rfl)); (simp only [go_sem, Nat.reduceLT, Nat.reduceLeDiff, Nat.reduceEqDiff, Nat.reduceAdd, Nat.reduceSub, Nat.reduceMul, reduceIte, reduceCtorEq, h0, h4, f2, q2, hc1] <;> rfl); (first | refine sk_id ?_ | refine cs_t ?_ | refine cs_f ?_ | refine gs_t rfl ?_ | refine gs_f rfl ?_)))
            refine sk_join (fun fr σ' => σ' = σ ∧ fget fr 0 = .str s ∧ fget fr 4 = .int .i64 (p : Nat) ∧ fget fr 8 = .int .i64 (k : Nat)) ?_ ?_
            · by_cases h47 : c1 = 47
              · have q3 : ((c1 : Int) == 47) = true := by simp [h47]
                have q4 : IntKind.wrap .i64 (((p + 1 : Nat) : Int) + 1) = ((p + 2 : Nat) : Int) := wrap_i64 (by omega) (by omega)
                have hk2 : k = p + 2 := by rw [hk]; unfold tagAt; rw [if_pos (by rw [hc1, h47])]
                repeat (first
                  | refine sk_seq ?_
                  | refine sk_region ?_
                  | refine sk_ops_nil ?_
                  | refine sk_block ?_
                  | refine sk_blk ?_
                  | refine sk_skip ?_
                  | refine sk_exit rfl ?_
                  | ((first | (apply sk_r; rfl; rfl) | (apply sk_w; rfl; rfl) | (apply sk_i; rfl) | (apply sk_g; rfl; rfl)); (simp only [go_sem, Nat.reduceLT, Nat.reduceLeDiff, Nat.reduceEqDiff, Nat.reduceAdd, Nat.reduceSub, Nat.reduceMul, reduceIte, reduceCtorEq, h0, h4, q3, q4] <;> rfl); (first | refine sk_id ?_ | refine cs_t ?_ | refine cs_f ?_ | refine gs_t rfl ?_ | refine gs_f rfl ?_)))
                exact sk_end ⟨rfl, (by first | (simp only [go_sem, Nat.reduceLT, Nat.reduceLeDiff, Nat.reduceEqDiff, Nat.reduceAdd, Nat.reduceSub, Nat.reduceMul, reduceIte, reduceCtorEq, h0] <;> rfl) | fail), (by first | (simp only [go_sem, Nat.reduceLT, Nat.reduceLeDiff, Nat.reduceEqDiff, Nat.reduceAdd, Nat.reduceSub, Nat.reduceMul, reduceIte, reduceCtorEq, h4] <;> rfl) | fail), by rw [hk2]; exact (by first | (simp only [go_sem, Nat.reduceLT, Nat.reduceLeDiff, Nat.reduceEqDiff, Nat.reduceAdd, Nat.reduceSub, Nat.reduceMul, reduceIte, reduceCtorEq] <;> rfl) | fail)⟩
              · have q3 : ((c1 : Int) == 47) = false := by simp; omega
                have hk2 : k = p + 1 := by rw [hk]; unfold tagAt; rw [if_neg (by rw [hc1]; simpa using h47)]
                repeat (first
                  | refine sk_seq ?_
                  | refine sk_region ?_
                  | refine sk_ops_nil ?_
                  | refine sk_block ?_
                  | refine sk_blk ?_
                  | refine sk_skip ?_
                  | refine sk_exit rfl ?_
                  | ((first | (apply sk_r; rfl; rfl) | (apply sk_w; rfl; rfl) | (apply sk_i; rfl) | (apply sk_g; rfl; rfl)); (simp only [go_sem, Nat.reduceLT, Nat.reduceLeDiff, Nat.reduceEqDiff, Nat.reduceAdd, Nat.reduceSub, Nat.reduceMul, reduceIte, reduceCtorEq, h0, h4, q3] <;> rfl); (first | refine sk_id ?_ | refine cs_t ?_ | refine cs_f ?_ | refine gs_t rfl ?_ | refine gs_f rfl ?_)))
                exact sk_end ⟨rfl, (by first | (simp only [go_sem, Nat.reduceLT, Nat.reduceLeDiff, Nat.reduceEqDiff, Nat.reduceAdd, Nat.reduceSub, Nat.reduceMul, reduceIte, reduceCtorEq, h0] <;> rfl) | fail), (by first | (simp only [go_sem, Nat.reduceLT, Nat.reduceLeDiff, Nat.reduceEqDiff, Nat.reduceAdd, Nat.reduceSub, Nat.reduceMul, reduceIte, reduceCtorEq, h4] <;> rfl) | fail), by rw [hk2]; exact (by first | (simp only [go_sem, Nat.reduceLT, Nat.reduceLeDiff, Nat.reduceEqDiff, Nat.reduceAdd, Nat.reduceSub, Nat.reduceMul, reduceIte, reduceCtorEq] <;> rfl) | fail)⟩
            clear h0 h4 hτ
            rintro fr τ ⟨hτ, h0, h4, h8⟩
            rw [hτ]
            refine sk_seq ?_
            refine sk_join (fun fr σ' => σ' = σ ∧ letAt s k = false ∧ fget fr 0 = .str s ∧ fget fr 4 = .int .i64 (p : Nat)) ?_ ?_
            · have r2 : (0 : Int) ≤ (k : Int) := by omega
              by_cases hkl : k < s.length
              · have r1 : decide ((k : Int) < (s.length : Int)) = true := decide_eq_true (by omega)
                obtain ⟨x, hx⟩ := at_some hkl
                have s22 := fun σ => f22_tr x σ
                have hlx : letAt s k = isLet x := by unfold letAt; rw [hx]
                cases hxl : isLet x
                · rw [hxl] at s22 hlx
                  repeat (first
                    | refine sk_seq ?_
                    | refine sk_region ?_
                    | refine sk_ops_nil ?_
                    | refine sk_block ?_
                    | refine sk_blk ?_
                    | refine sk_skip ?_
                    | refine sk_exit rfl ?_
                    | ((first | (apply sk_r; rfl; rfl) | (apply sk_w; rfl; rfl) | (apply sk_i; rfl) | (apply sk_g; rfl; rfl)); (simp only [go_sem, Nat.reduceLT, Nat.reduceLeDiff, Nat.reduceEqDiff, Nat.reduceAdd, Nat.reduceSub, Nat.reduceMul, reduceIte, reduceCtorEq, h0, h4, h8, r1, r2, hx] <;> rfl); (first | refine sk_id ?_ | refine cs_t ?_ | refine cs_f ?_ | refine gs_t rfl ?_ | refine gs_f rfl ?_))
                    | ((first | (apply sk_c; rfl; rfl)); (simp only [go_sem, Nat.reduceLT, Nat.reduceLeDiff, Nat.reduceEqDiff, Nat.reduceAdd, Nat.reduceSub, Nat.reduceMul, reduceIte, reduceCtorEq, h0, h4, h8, r1, r2, hx] <;> rfl); (first
                        | (refine (s22 _).mono ?_; rintro _ τ2 ⟨rfl, hτ2⟩; rw [hτ2])); refine sk_id ?_))
                  exact sk_end ⟨rfl, hlx, (by first | (simp only [go_sem, Nat.reduceLT, Nat.reduceLeDiff, Nat.reduceEqDiff, Nat.reduceAdd, Nat.reduceSub, Nat.reduceMul, reduceIte, reduceCtorEq, h0] <;> rfl) | fail), (by first | (simp only [go_sem, Nat.reduceLT, Nat.reduceLeDiff, Nat.reduceEqDiff, Nat.reduceAdd, Nat.reduceSub, Nat.reduceMul, reduceIte, reduceCtorEq, h4] <;> rfl) | fail)⟩
                · rw [hxl] at s22 hlx
                  rw [if_pos hlx] at hso
                  repeat (first
                    | refine sk_seq ?_
                    | refine sk_region ?_
                    | refine sk_ops_nil ?_
                    | refine sk_block ?_
                    | refine sk_blk ?_
                    | refine sk_skip ?_
                    | refine sk_exit rfl ?_
                    | ((first | (apply sk_r; rfl; rfl) | (apply sk_w; rfl; rfl) | (apply sk_i; rfl) | (apply sk_g; rfl; rfl)); (simp only [go_sem, Nat.reduceLT, Nat.reduceLeDiff, Nat.reduceEqDiff, Nat.reduceAdd, Nat.reduceSub, Nat.reduceMul, reduceIte, reduceCtorEq, h0, h4, h8, r1, r2, hx] <;> rfl); (first | refine sk_id ?_ | refine cs_t ?_ | refine cs_f ?_ | refine gs_t rfl ?_ | refine gs_f rfl ?_))
                    | ((first | (apply sk_c; rfl; rfl)); (simp only [go_sem, Nat.reduceLT, Nat.reduceLeDiff, Nat.reduceEqDiff, Nat.reduceAdd, Nat.reduceSub, Nat.reduceMul, reduceIte, reduceCtorEq, h0, h4, h8, r1, r2, hx] <;> rfl); (first
                        | (refine (s22 _).mono ?_; rintro _ τ2 ⟨rfl, hτ2⟩; rw [hτ2])); refine sk_id ?_))
                  obtain ⟨T, hT⟩ : ∃ T, T = run (fun c => !isIn E6 c) s k := ⟨_, rfl⟩
                  rw [← hT] at hso
                  have hTl : T ≤ s.length := by rw [hT]; exact run_le (by omega)
                  refine sk_cut (fun fr σ' => σ' = σ ∧ fget fr 0 = .str s ∧ fget fr 8 = .int .i64 (T : Nat)) ?_ ?_
                  · refine sk_loop (fun m fr σ' => ∃ j, m = s.length - j ∧ j ≤ s.length ∧ run (fun c => !isIn E6 c) s j = T ∧ σ' = σ ∧ fget fr 0 = .str s ∧ fget fr 8 = .int .i64 (j : Nat)) _
                      ⟨k, rfl, by omega, hT.symm, rfl, (by first | (simp only [go_sem, Nat.reduceLT, Nat.reduceLeDiff, Nat.reduceEqDiff, Nat.reduceAdd, Nat.reduceSub, Nat.reduceMul, reduceIte, reduceCtorEq, h0] <;> rfl) | fail), (by first | (simp only [go_sem, Nat.reduceLT, Nat.reduceLeDiff, Nat.reduceEqDiff, Nat.reduceAdd, Nat.reduceSub, Nat.reduceMul, reduceIte, reduceCtorEq, h8] <;> rfl) | fail)⟩ ?_
                    clear h0 h4 h8 hτ
                    rintro _ fr τ ⟨j, rfl, hj, hr, hτ, h0, h8⟩
                    rw [hτ]
                    by_cases hjl : j < s.length
                    · obtain ⟨y, hy⟩ := at_some hjl
                      have u1 : decide ((j : Int) < (s.length : Int)) = true := decide_eq_true (by omega)
                      have u2 : (0 : Int) ≤ (j : Int) := by omega
                      have u3 : IntKind.wrap .i64 ((j : Int) + 1) = ((j + 1 : Nat) : Int) := wrap_i64 (by omega) (by omega)
                      have s20 := fun σ => f20_tr y σ
                      have hE := isInE y
                      cases hbl : isIn [9, 10, 12, 13, 32] y
                      · rw [hbl] at s20 hE
                        by_cases h62 : y = 62
                        · have u4 : ((y : Int) != 62) = false := by simp [h62]
                          rw [decide_eq_true h62] at hE
                          repeat (first
                            | refine sk_seq ?_
                            | refine sk_region ?_
                            | refine sk_ops_nil ?_
                            | refine sk_block ?_
                            | refine sk_blk ?_
                            | refine sk_skip ?_
                            | refine sk_exit rfl ?_
                            | ((first | (apply sk_r; rfl; rfl) | (apply sk_w; rfl; rfl) | (apply sk_i; rfl) | (apply sk_g; rfl; rfl)); (simp only [go_sem, Nat.reduceLT, Nat.reduceLeDiff, Nat.reduceEqDiff, Nat.reduceAdd, Nat.reduceSub, Nat.reduceMul, reduceIte, reduceCtorEq, h0, h8, u1, u2, u3, u4, hy] <;> rfl); (first | refine sk_id ?_ | refine cs_t ?_ | refine cs_f ?_ | refine gs_t rfl ?_ | refine gs_f rfl ?_))
                            | ((first | (apply sk_c; rfl; rfl)); (simp only [go_sem, Nat.reduceLT, Nat.reduceLeDiff, Nat.reduceEqDiff, Nat.reduceAdd, Nat.reduceSub, Nat.reduceMul, reduceIte, reduceCtorEq, h0, h8, u1, u2, u3, u4, hy] <;> rfl); (first
                                | (refine (s20 _).mono ?_; rintro _ τ2 ⟨rfl, hτ2⟩; rw [hτ2])); refine sk_id ?_))
                          exact sk_end ⟨rfl, (by first | (simp only [go_sem, Nat.reduceLT, Nat.reduceLeDiff, Nat.reduceEqDiff, Nat.reduceAdd, Nat.reduceSub, Nat.reduceMul, reduceIte, reduceCtorEq, h0] <;> rfl) | fail), by rw [← hr, run_stop (p := fun c => !isIn E6 c) hy (by simp [hE])]; exact (by first | (simp only [go_sem, Nat.reduceLT, Nat.reduceLeDiff, Nat.reduceEqDiff, Nat.reduceAdd, Nat.reduceSub, Nat.reduceMul, reduceIte, reduceCtorEq, h8] <;> rfl) | fail)⟩
                        · have u4 : ((y : Int) != 62) = true := by simp; omega
                          rw [decide_eq_false h62] at hE
                          repeat (first
                            | refine sk_seq ?_
                            | refine sk_region ?_
                            | refine sk_ops_nil ?_
                            | refine sk_block ?_
                            | refine sk_blk ?_
                            | refine sk_skip ?_
                            | refine sk_exit rfl ?_
                            | ((first | (apply sk_r; rfl; rfl) | (apply sk_w; rfl; rfl) | (apply sk_i; rfl) | (apply sk_g; rfl; rfl)); (simp only [go_sem, Nat.reduceLT, Nat.reduceLeDiff, Nat.reduceEqDiff, Nat.reduceAdd, Nat.reduceSub, Nat.reduceMul, reduceIte, reduceCtorEq, h0, h8, u1, u2, u3, u4, hy] <;> rfl); (first | refine sk_id ?_ | refine cs_t ?_ | refine cs_f ?_ | refine gs_t rfl ?_ | refine gs_f rfl ?_))
                            | ((first | (apply sk_c; rfl; rfl)); (simp only [go_sem, Nat.reduceLT, Nat.reduceLeDiff, Nat.reduceEqDiff, Nat.reduceAdd, Nat.reduceSub, Nat.reduceMul, reduceIte, reduceCtorEq, h0, h8, u1, u2, u3, u4, hy] <;> rfl); (first
                                | (refine (s20 _).mono ?_; rintro _ τ2 ⟨rfl, hτ2⟩; rw [hτ2])); refine sk_id ?_))
                          exact sk_stop ⟨s.length - (j + 1), by omega, j + 1, rfl, by omega, (run_step (p := fun c => !isIn E6 c) hy (by simp [hE])).symm.trans hr, rfl, (by first | (simp only [go_sem, Nat.reduceLT, Nat.reduceLeDiff, Nat.reduceEqDiff, Nat.reduceAdd, Nat.reduceSub, Nat.reduceMul, reduceIte, reduceCtorEq, h0] <;> rfl) | fail), (by first | (simp only [go_sem, Nat.reduceLT, Nat.reduceLeDiff, Nat.reduceEqDiff, Nat.reduceAdd, Nat.reduceSub, Nat.reduceMul, reduceIte, reduceCtorEq] <;> rfl) | fail)⟩
                      · rw [hbl] at s20 hE
                        repeat (first
                          | refine sk_seq ?_
                          | refine sk_region ?_
                          | refine sk_ops_nil ?_
                          | refine sk_block ?_
                          | refine sk_blk ?_
                          | refine sk_skip ?_
                          | refine sk_exit rfl ?_
                          | ((first | (apply sk_r; rfl; rfl) | (apply sk_w; rfl; rfl) | (apply sk_i; rfl) | (apply sk_g; rfl; rfl)); (simp only [go_sem, Nat.reduceLT, Nat.reduceLeDiff, Nat.reduceEqDiff, Nat.reduceAdd, Nat.reduceSub, Nat.reduceMul, reduceIte, reduceCtorEq, h0, h8, u1, u2, u3, hy] <;> rfl); (first | refine sk_id ?_ | refine cs_t ?_ | refine cs_f ?_ | refine gs_t rfl ?_ | refine gs_f rfl ?_))
                          | ((first | (apply sk_c; rfl; rfl)); (simp only [go_sem, Nat.reduceLT, Nat.reduceLeDiff, Nat.reduceEqDiff, Nat.reduceAdd, Nat.reduceSub, Nat.reduceMul, reduceIte, reduceCtorEq, h0, h8, u1, u2, u3, hy] <;> rfl); (first
                              | (refine (s20 _).mono ?_; rintro _ τ2 ⟨rfl, hτ2⟩; rw [hτ2])); refine sk_id ?_))
                        exact sk_end ⟨rfl, (by first | (simp only [go_sem, Nat.reduceLT, Nat.reduceLeDiff, Nat.reduceEqDiff, Nat.reduceAdd, Nat.reduceSub, Nat.reduceMul, reduceIte, reduceCtorEq, h0] <;> rfl) | fail), by rw [← hr, run_stop (p := fun c => !isIn E6 c) hy (by simp [hE])]; exact (by first | (simp only [go_sem, Nat.reduceLT, Nat.reduceLeDiff, Nat.reduceEqDiff, Nat.reduceAdd, Nat.reduceSub, Nat.reduceMul, reduceIte, reduceCtorEq, h8] <;> rfl) | fail)⟩
                    · have u1 : decide ((j : Int) < (s.length : Int)) = false := decide_eq_false (by omega)
                      repeat (first
                        | refine sk_seq ?_
                        | refine sk_region ?_
                        | refine sk_ops_nil ?_
                        | refine sk_block ?_
                        | refine sk_blk ?_
                        | refine sk_skip ?_
                        | refine sk_exit rfl ?_
                        | ((first | (apply sk_r; rfl; rfl) | (apply sk_w; rfl; rfl) | (apply sk_i; rfl) | (apply sk_g; rfl; rfl)); (simp only [go_sem, Nat.reduceLT, Nat.reduceLeDiff, Nat.reduceEqDiff, Nat.reduceAdd, Nat.reduceSub, Nat.reduceMul, reduceIte, reduceCtorEq, h0, h8, u1] <;> rfl); (first | refine sk_id ?_ | refine cs_t ?_ | refine cs_f ?_ | refine gs_t rfl ?_ | refine gs_f rfl ?_)))
                      exact sk_end ⟨rfl, (by first | (simp only [go_sem, Nat.reduceLT, Nat.reduceLeDiff, Nat.reduceEqDiff, Nat.reduceAdd, Nat.reduceSub, Nat.reduceMul, reduceIte, reduceCtorEq, h0] <;> rfl) | fail), by rw [← hr, run_end (by omega)]; exact (by first | (simp only [go_sem, Nat.reduceLT, Nat.reduceLeDiff, Nat.reduceEqDiff, Nat.reduceAdd, Nat.reduceSub, Nat.reduceMul, reduceIte, reduceCtorEq, h8] <;> rfl) | fail)⟩
                  clear h0 h4 h8 hτ
                  rintro fr τ ⟨hτ, h0, h8⟩
                  rw [hτ]
                  repeat (first
                    | refine sk_seq ?_
                    | refine sk_region ?_
                    | refine sk_ops_nil ?_
                    | refine sk_block ?_
                    | refine sk_blk ?_
                    | refine sk_skip ?_
                    | refine sk_exit rfl ?_
                    | ((first | (apply sk_r; rfl; rfl) | (apply sk_w; rfl; rfl) | (apply sk_i; rfl) | (apply sk_g; rfl; rfl)); (simp only [go_sem, Nat.reduceLT, Nat.reduceLeDiff, Nat.reduceEqDiff, Nat.reduceAdd, Nat.reduceSub, Nat.reduceMul, reduceIte, reduceCtorEq, h0, h8] <;> rfl); (first | refine sk_id ?_ | refine cs_t ?_ | refine cs_f ?_ | refine gs_t rfl ?_ | refine gs_f rfl ?_)))
                  refine sk_cut (fun fr σ' => σ' = σ ∧ fget fr 0 = .str s ∧ fget fr 8 = .int .i64 (skipOf s p : Nat)) ?_ ?_
                  · refine sk_loop (fun m fr σ' => ∃ f j, ∃ ok : Bool, m = f + (if ok then 1 else 0) ∧ j ≤ s.length ∧ fget fr 0 = .str s ∧ fget fr 8 = .int .i64 (j : Nat) ∧ fget fr 9 = .bool ok ∧ σ' = σ ∧ (ok = true → s.length - j < f ∧ atGo s f j = skipOf s p) ∧ (ok = false → j = skipOf s p)) _
                      ⟨s.length + 1, T, true, rfl, hTl, (by first | (simp only [go_sem, Nat.reduceLT, Nat.reduceLeDiff, Nat.reduceEqDiff, Nat.reduceAdd, Nat.reduceSub, Nat.reduceMul, reduceIte, reduceCtorEq, h0] <;> rfl) | fail), (by first | (simp only [go_sem, Nat.reduceLT, Nat.reduceLeDiff, Nat.reduceEqDiff, Nat.reduceAdd, Nat.reduceSub, Nat.reduceMul, reduceIte, reduceCtorEq, h8] <;> rfl) | fail), (by first | (simp only [go_sem, Nat.reduceLT, Nat.reduceLeDiff, Nat.reduceEqDiff, Nat.reduceAdd, Nat.reduceSub, Nat.reduceMul, reduceIte, reduceCtorEq] <;> rfl) | fail), rfl, fun _ => ⟨by omega, hso.symm⟩, fun h => by cases h⟩ ?_
                    clear h0 h8 hτ
                    rintro _ fr τ ⟨f, j, ok, rfl, hj, h0, h8, h9, hτ, hok, hno⟩
                    rw [hτ]
                    cases ok
                    · repeat (first
                        | refine sk_seq ?_
                        | refine sk_region ?_
                        | refine sk_ops_nil ?_
                        | refine sk_block ?_
                        | refine sk_blk ?_
                        | refine sk_skip ?_
                        | refine sk_exit rfl ?_
                        | ((first | (apply sk_r; rfl; rfl) | (apply sk_w; rfl; rfl) | (apply sk_i; rfl) | (apply sk_g; rfl; rfl)); (simp only [go_sem, Nat.reduceLT, Nat.reduceLeDiff, Nat.reduceEqDiff, Nat.reduceAdd, Nat.reduceSub, Nat.reduceMul, reduceIte, reduceCtorEq, h9] <;> rfl); (first | refine sk_id ?_ | refine cs_t ?_ | refine cs_f ?_ | refine gs_t rfl ?_ | refine gs_f rfl ?_)))
                      exact sk_end ⟨rfl, (by first | (simp only [go_sem, Nat.reduceLT, Nat.reduceLeDiff, Nat.reduceEqDiff, Nat.reduceAdd, Nat.reduceSub, Nat.reduceMul, reduceIte, reduceCtorEq, h0] <;> rfl) | fail), by rw [← hno rfl]; exact (by first | (simp only [go_sem, Nat.reduceLT, Nat.reduceLeDiff, Nat.reduceEqDiff, Nat.reduceAdd, Nat.reduceSub, Nat.reduceMul, reduceIte, reduceCtorEq, h8] <;> rfl) | fail)⟩
                    · obtain ⟨hf, hR⟩ := hok rfl
                      obtain ⟨f, rfl⟩ : ∃ g, f = g + 1 := ⟨f - 1, by omega⟩
                      have hat := attr_all hsd hj
                      have hend := attr_end (d := s) (k := j) hj
                      have s23 := fun σ => f23_tr j s hsd hj (by omega) σ
                      rw [atGo] at hR
                      obtain ⟨⟨n, v, nx, ok⟩, hA⟩ : ∃ r, attrOf s j = r := ⟨_, rfl⟩
                      rw [hA] at hat hend s23 hR
                      simp only [attrAV4] at hat hend s23 hR
                      cases ok
                      · rw [if_neg (by simp)] at hR
                        repeat (first
                          | refine sk_seq ?_
                          | refine sk_region ?_
                          | refine sk_ops_nil ?_
                          | refine sk_block ?_
                          | refine sk_blk ?_
                          | refine sk_skip ?_
                          | refine sk_exit rfl ?_
                          | ((first | (apply sk_r; rfl; rfl) | (apply sk_w; rfl; rfl) | (apply sk_i; rfl) | (apply sk_g; rfl; rfl)); (simp only [go_sem, Nat.reduceLT, Nat.reduceLeDiff, Nat.reduceEqDiff, Nat.reduceAdd, Nat.reduceSub, Nat.reduceMul, reduceIte, reduceCtorEq, h0, h8, h9] <;> rfl); (first | refine sk_id ?_ | refine cs_t ?_ | refine cs_f ?_ | refine gs_t rfl ?_ | refine gs_f rfl ?_))
                          | ((first | (apply sk_c; rfl; rfl)); (simp only [go_sem, Nat.reduceLT, Nat.reduceLeDiff, Nat.reduceEqDiff, Nat.reduceAdd, Nat.reduceSub, Nat.reduceMul, reduceIte, reduceCtorEq, h0, h8, h9] <;> rfl); (first
                              | (refine (s23 _).mono ?_; rintro _ τ2 ⟨rfl, hτ2⟩; rw [hτ2])); refine sk_id ?_))
                        exact sk_stop ⟨f, by simp <;> omega, f, nx, false, rfl, hat.2.2.2, (by first | (simp only [go_sem, Nat.reduceLT, Nat.reduceLeDiff, Nat.reduceEqDiff, Nat.reduceAdd, Nat.reduceSub, Nat.reduceMul, reduceIte, reduceCtorEq, h0] <;> rfl) | fail), (by first | (simp only [go_sem, Nat.reduceLT, Nat.reduceLeDiff, Nat.reduceEqDiff, Nat.reduceAdd, Nat.reduceSub, Nat.reduceMul, reduceIte, reduceCtorEq] <;> rfl) | fail), (by first | (simp only [go_sem, Nat.reduceLT, Nat.reduceLeDiff, Nat.reduceEqDiff, Nat.reduceAdd, Nat.reduceSub, Nat.reduceMul, reduceIte, reduceCtorEq] <;> rfl) | fail), rfl, fun h => (by cases h), fun _ => hR⟩
                      · rw [if_pos rfl] at hR
                        obtain ⟨q1, q2⟩ := hend rfl
                        repeat (first
                          | refine sk_seq ?_
                          | refine sk_region ?_
                          | refine sk_ops_nil ?_
                          | refine sk_block ?_
                          | refine sk_blk ?_
                          | refine sk_skip ?_
                          | refine sk_exit rfl ?_
                          | ((first | (apply sk_r; rfl; rfl) | (apply sk_w; rfl; rfl) | (apply sk_i; rfl) | (apply sk_g; rfl; rfl)); (simp only [go_sem, Nat.reduceLT, Nat.reduceLeDiff, Nat.reduceEqDiff, Nat.reduceAdd, Nat.reduceSub, Nat.reduceMul, reduceIte, reduceCtorEq, h0, h8, h9] <;> rfl); (first | refine sk_id ?_ | refine cs_t ?_ | refine cs_f ?_ | refine gs_t rfl ?_ | refine gs_f rfl ?_))
                          | ((first | (apply sk_c; rfl; rfl)); (simp only [go_sem, Nat.reduceLT, Nat.reduceLeDiff, Nat.reduceEqDiff, Nat.reduceAdd, Nat.reduceSub, Nat.reduceMul, reduceIte, reduceCtorEq, h0, h8, h9] <;> rfl); (first
                              | (refine (s23 _).mono ?_; rintro _ τ2 ⟨rfl, hτ2⟩; rw [hτ2])); refine sk_id ?_))
                        exact sk_stop ⟨f + 1, by simp <;> omega, f, nx, true, rfl, hat.2.2.2, (by first | (simp only [go_sem, Nat.reduceLT, Nat.reduceLeDiff, Nat.reduceEqDiff, Nat.reduceAdd, Nat.reduceSub, Nat.reduceMul, reduceIte, reduceCtorEq, h0] <;> rfl) | fail), (by first | (simp only [go_sem, Nat.reduceLT, Nat.reduceLeDiff, Nat.reduceEqDiff, Nat.reduceAdd, Nat.reduceSub, Nat.reduceMul, reduceIte, reduceCtorEq] <;> rfl) | fail), (by first | (simp only [go_sem, Nat.reduceLT, Nat.reduceLeDiff, Nat.reduceEqDiff, Nat.reduceAdd, Nat.reduceSub, Nat.reduceMul, reduceIte, reduceCtorEq] <;> rfl) | fail), rfl, fun _ => ⟨by omega, hR⟩, fun h => (by cases h)⟩
                  clear h0 h8 hτ
                  rintro fr τ ⟨hτ, h0, h8⟩
                  rw [hτ]
                  repeat (first
                    | refine sk_seq ?_
                    | refine sk_region ?_
                    | refine sk_ops_nil ?_
                    | refine sk_block ?_
                    | refine sk_blk ?_
                    | refine sk_skip ?_
                    | refine sk_exit rfl ?_
                    | ((first | (apply sk_r; rfl; rfl) | (apply sk_w; rfl; rfl) | (apply sk_i; rfl) | (apply sk_g; rfl; rfl)); (simp only [go_sem, Nat.reduceLT, Nat.reduceLeDiff, Nat.reduceEqDiff, Nat.reduceAdd, Nat.reduceSub, Nat.reduceMul, reduceIte, reduceCtorEq, h0, h8] <;> rfl); (first | refine sk_id ?_ | refine cs_t ?_ | refine cs_f ?_ | refine gs_t rfl ?_ | refine gs_f rfl ?_)))
                  refine sk_cut_exit rfl rfl ?_
                  repeat (first
                    | refine sk_seq ?_
                    | refine sk_region ?_
                    | refine sk_ops_nil ?_
                    | refine sk_block ?_
                    | refine sk_blk ?_
                    | refine sk_skip ?_
                    | refine sk_exit rfl ?_
                    | ((first | (apply sk_r; rfl; rfl) | (apply sk_w; rfl; rfl) | (apply sk_i; rfl) | (apply sk_g; rfl; rfl)); (simp only [go_sem, Nat.reduceLT, Nat.reduceLeDiff, Nat.reduceEqDiff, Nat.reduceAdd, Nat.reduceSub, Nat.reduceMul, reduceIte, reduceCtorEq, h0, h8, f8] <;> rfl); (first | refine sk_id ?_ | refine cs_t ?_ | refine cs_f ?_ | refine gs_t rfl ?_ | refine gs_f rfl ?_)))
                  exact sk_stop ⟨f, by omega, f, _, rfl, by omega, by omega, hR, rfl, (by first | (simp only [go_sem, Nat.reduceLT, Nat.reduceLeDiff, Nat.reduceEqDiff, Nat.reduceAdd, Nat.reduceSub, Nat.reduceMul, reduceIte, reduceCtorEq, h0] <;> rfl) | fail), (by first | (simp only [go_sem, Nat.reduceLT, Nat.reduceLeDiff, Nat.reduceEqDiff, Nat.reduceAdd, Nat.reduceSub, Nat.reduceMul, reduceIte, reduceCtorEq] <;> rfl) | fail)⟩
              · have r1 : decide ((k : Int) < (s.length : Int)) = false := decide_eq_false (by omega)
                have hlx : letAt s k = false := by unfold letAt; rw [List.getElem?_eq_none (by omega)]
                repeat (first
                  | refine sk_seq ?_
                  | refine sk_region ?_
                  | refine sk_ops_nil ?_
                  | refine sk_block ?_
                  | refine sk_blk ?_
                  | refine sk_skip ?_
                  | refine sk_exit rfl ?_
                  | ((first | (apply sk_r; rfl; rfl) | (apply sk_w; rfl; rfl) | (apply sk_i; rfl) | (apply sk_g; rfl; rfl)); (simp only [go_sem, Nat.reduceLT, Nat.reduceLeDiff, Nat.reduceEqDiff, Nat.reduceAdd, Nat.reduceSub, Nat.reduceMul, reduceIte, reduceCtorEq, h0, h4, h8, r1] <;> rfl); (first | refine sk_id ?_ | refine cs_t ?_ | refine cs_f ?_ | refine gs_t rfl ?_ | refine gs_f rfl ?_)))
                exact sk_end ⟨rfl, hlx, (by first | (simp only [go_sem, Nat.reduceLT, Nat.reduceLeDiff, Nat.reduceEqDiff, Nat.reduceAdd, Nat.reduceSub, Nat.reduceMul, reduceIte, reduceCtorEq, h0] <;> rfl) | fail), (by first | (simp only [go_sem, Nat.reduceLT, Nat.reduceLeDiff, Nat.reduceEqDiff, Nat.reduceAdd, Nat.reduceSub, Nat.reduceMul, reduceIte, reduceCtorEq, h4] <;> rfl) | fail)⟩
            clear h0 h4 h8 hτ
            rintro fr τ ⟨hτ, hlf, h0, h4⟩
            rw [hτ]
            rw [if_neg (by rw [hlf]; simp)] at hso
            by_cases hm3 : c1 = 33 ∨ c1 = 47 ∨ c1 = 63
            · rw [if_pos hm3] at hso
              refine sk_seq ?_
              refine sk_split2 (fun fr σ' => σ' = σ ∧ fget fr 0 = .str s ∧ fget fr 4 = .int .i64 (skipOf s p : Nat)) ?_ ?_
              · have hb3 : ∃ b33 b47 b63 : Bool, ((c1 : Int) == 33) = b33 ∧ ((c1 : Int) == 47) = b47 ∧ ((c1 : Int) == 63) = b63 ∧ (b33 = true ∨ b33 = false ∧ b47 = true ∨ b33 = false ∧ b47 = false ∧ b63 = true) := by
                  rcases hm3 with h | h | h
                  · exact ⟨_, _, _, rfl, rfl, rfl, .inl (by simp [h])⟩
                  · exact ⟨_, _, _, rfl, rfl, rfl, .inr (.inl ⟨by simp [h], by simp [h]⟩)⟩
                  · exact ⟨_, _, _, rfl, rfl, rfl, .inr (.inr ⟨by simp [h], by simp [h], by simp [h]⟩)⟩
                obtain ⟨b33, b47, b63, u1, u2, u3, h3⟩ := hb3
                rcases h3 with rfl | ⟨rfl, rfl⟩ | ⟨rfl, rfl, rfl⟩
                all_goals
                  repeat (first
                    | refine sk_seq ?_
                    | refine sk_region ?_
                    | refine sk_ops_nil ?_
                    | refine sk_block ?_
                    | refine sk_blk ?_
                    | refine sk_skip ?_
                    | refine sk_exit rfl ?_
                    | ((first | (apply sk_r; rfl; rfl) | (apply sk_w; rfl; rfl) | (apply sk_i; rfl) | (apply sk_g; rfl; rfl)); (simp only [go_sem, Nat.reduceLT, Nat.reduceLeDiff, Nat.reduceEqDiff, Nat.reduceAdd, Nat.reduceSub, Nat.reduceMul, reduceIte, reduceCtorEq, h0, h4, f2, q2, hc1, u1, u2, u3] <;> rfl); (first | refine sk_id ?_ | refine cs_t ?_ | refine cs_f ?_ | refine gs_t rfl ?_ | refine gs_f rfl ?_)))
                  refine sk_cut (fun fr σ' => σ' = σ ∧ fget fr 0 = .str s ∧ fget fr 4 = .int .i64 (skipOf s p : Nat)) ?_ ?_
                  · refine sk_loop (fun m fr σ' => ∃ j, m = s.length - j ∧ j ≤ s.length ∧ run (fun c => !isIn [62] c) s j = skipOf s p ∧ σ' = σ ∧ fget fr 0 = .str s ∧ fget fr 4 = .int .i64 (j : Nat)) _
                      ⟨p, rfl, by omega, hso.symm, rfl, (by first | (simp only [go_sem, Nat.reduceLT, Nat.reduceLeDiff, Nat.reduceEqDiff, Nat.reduceAdd, Nat.reduceSub, Nat.reduceMul, reduceIte, reduceCtorEq, h0] <;> rfl) | fail), (by first | (simp only [go_sem, Nat.reduceLT, Nat.reduceLeDiff, Nat.reduceEqDiff, Nat.reduceAdd, Nat.reduceSub, Nat.reduceMul, reduceIte, reduceCtorEq, h4] <;> rfl) | fail)⟩ ?_
                    rintro _ fr τ ⟨j, rfl, hj, hr, hτ, h0, h4⟩
                    rw [hτ]
                    by_cases hjl : j < s.length
                    · obtain ⟨y, hy⟩ := at_some hjl
                      have v1 : decide ((j : Int) < (s.length : Int)) = true := decide_eq_true (by omega)
                      have v2 : (0 : Int) ≤ (j : Int) := by omega
                      have v3 : IntKind.wrap .i64 ((j : Int) + 1) = ((j + 1 : Nat) : Int) := wrap_i64 (by omega) (by omega)
                      by_cases h62 : y = 62
                      · have v4 : ((y : Int) != 62) = false := by simp [h62]
                        repeat (first
                          | refine sk_seq ?_
                          | refine sk_region ?_
                          | refine sk_ops_nil ?_
                          | refine sk_block ?_
                          | refine sk_blk ?_
                          | refine sk_skip ?_
                          | refine sk_exit rfl ?_
                          | ((first | (apply sk_r; rfl; rfl) | (apply sk_w; rfl; rfl) | (apply sk_i; rfl) | (apply sk_g; rfl; rfl)); (simp only [go_sem, Nat.reduceLT, Nat.reduceLeDiff, Nat.reduceEqDiff, Nat.reduceAdd, Nat.reduceSub, Nat.reduceMul, reduceIte, reduceCtorEq, h0, h4, v1, v2, v3, v4, hy] <;> rfl); (first | refine sk_id ?_ | refine cs_t ?_ | refine cs_f ?_ | refine gs_t rfl ?_ | refine gs_f rfl ?_)))
                        exact sk_end ⟨rfl, (by first | (simp only [go_sem, Nat.reduceLT, Nat.reduceLeDiff, Nat.reduceEqDiff, Nat.reduceAdd, Nat.reduceSub, Nat.reduceMul, reduceIte, reduceCtorEq, h0] <;> rfl) | fail), by rw [← hr, run_stop (p := fun c => !isIn [62] c) hy (isIn_yes (by simp [h62]))]; exact (by first | (simp only [go_sem, Nat.reduceLT, Nat.reduceLeDiff, Nat.reduceEqDiff, Nat.reduceAdd, Nat.reduceSub, Nat.reduceMul, reduceIte, reduceCtorEq, h4] <;> rfl) | fail)⟩
                      · have v4 : ((y : Int) != 62) = true := by simp; omega
                        repeat (first
                          | refine sk_seq ?_
                          | refine sk_region ?_
                          | refine sk_ops_nil ?_
                          | refine sk_block ?_
                          | refine sk_blk ?_
                          | refine sk_skip ?_
                          | refine sk_exit rfl ?_
                          | ((first | (apply sk_r; rfl; rfl) | (apply sk_w; rfl; rfl) | (apply sk_i; rfl) | (apply sk_g; rfl; rfl)); (simp only [go_sem, Nat.reduceLT, Nat.reduceLeDiff, Nat.reduceEqDiff, Nat.reduceAdd, Nat.reduceSub, Nat.reduceMul, reduceIte, reduceCtorEq, h0, h4, v1, v2, v3, v4, hy] <;> rfl); (first | refine sk_id ?_ | refine cs_t ?_ | refine cs_f ?_ | refine gs_t rfl ?_ | refine gs_f rfl ?_)))
                        exact sk_stop ⟨s.length - (j + 1), by omega, j + 1, rfl, by omega, (run_step (p := fun c => !isIn [62] c) hy (isIn_not (by simp [h62]))).symm.trans hr, rfl, (by first | (simp only [go_sem, Nat.reduceLT, Nat.reduceLeDiff, Nat.reduceEqDiff, Nat.reduceAdd, Nat.reduceSub, Nat.reduceMul, reduceIte, reduceCtorEq, h0] <;> rfl) | fail), (by first | (simp only [go_sem, Nat.reduceLT, Nat.reduceLeDiff, Nat.reduceEqDiff, Nat.reduceAdd, Nat.reduceSub, Nat.reduceMul, reduceIte, reduceCtorEq] <;> rfl) | fail)⟩
                    · have v1 : decide ((j : Int) < (s.length : Int)) = false := decide_eq_false (by omega)
                      repeat (first
                        | refine sk_seq ?_
                        | refine sk_region ?_
                        | refine sk_ops_nil ?_
                        | refine sk_block ?_
                        | refine sk_blk ?_
                        | refine sk_skip ?_
                        | refine sk_exit rfl ?_
                        | ((first | (apply sk_r; rfl; rfl) | (apply sk_w; rfl; rfl) | (apply sk_i; rfl) | (apply sk_g; rfl; rfl)); (simp only [go_sem, Nat.reduceLT, Nat.reduceLeDiff, Nat.reduceEqDiff, Nat.reduceAdd, Nat.reduceSub, Nat.reduceMul, reduceIte, reduceCtorEq, h0, h4, v1] <;> rfl); (first | refine sk_id ?_ | refine cs_t ?_ | refine cs_f ?_ | refine gs_t rfl ?_ | refine gs_f rfl ?_)))
                      exact sk_end ⟨rfl, (by first | (simp only [go_sem, Nat.reduceLT, Nat.reduceLeDiff, Nat.reduceEqDiff, Nat.reduceAdd, Nat.reduceSub, Nat.reduceMul, reduceIte, reduceCtorEq, h0] <;> rfl) | fail), by rw [← hr, run_end (by omega)]; exact (by first | (simp only [go_sem, Nat.reduceLT, Nat.reduceLeDiff, Nat.reduceEqDiff, Nat.reduceAdd, Nat.reduceSub, Nat.reduceMul, reduceIte, reduceCtorEq, h4] <;> rfl) | fail)⟩
                  rintro fr τ ⟨hτ, h0, h4⟩
                  rw [hτ]
                  exact sk_end ⟨rfl, h0, h4⟩
              · clear h0 h4 hτ
                rintro fr τ ⟨hτ, h0, h4⟩
                rw [hτ]
                repeat (first
                  | refine sk_seq ?_
                  | refine sk_region ?_
                  | refine sk_ops_nil ?_
                  | refine sk_block ?_
                  | refine sk_blk ?_
                  | refine sk_skip ?_
                  | refine sk_exit rfl ?_
                  | ((first | (apply sk_r; rfl; rfl) | (apply sk_w; rfl; rfl) | (apply sk_i; rfl) | (apply sk_g; rfl; rfl)); (simp only [go_sem, Nat.reduceLT, Nat.reduceLeDiff, Nat.reduceEqDiff, Nat.reduceAdd, Nat.reduceSub, Nat.reduceMul, reduceIte, reduceCtorEq, h0, h4, f8] <;> rfl); (first | refine sk_id ?_ | refine cs_t ?_ | refine cs_f ?_ | refine gs_t rfl ?_ | refine gs_f rfl ?_)))
                exact sk_stop ⟨f, by omega, f, _, rfl, by omega, by omega, hR, rfl, (by first | (simp only [go_sem, Nat.reduceLT, Nat.reduceLeDiff, Nat.reduceEqDiff, Nat.reduceAdd, Nat.reduceSub, Nat.reduceMul, reduceIte, reduceCtorEq, h0] <;> rfl) | fail), (by first | (simp only [go_sem, Nat.reduceLT, Nat.reduceLeDiff, Nat.reduceEqDiff, Nat.reduceAdd, Nat.reduceSub, Nat.reduceMul, reduceIte, reduceCtorEq] <;> rfl) | fail)⟩
            · rw [if_neg hm3] at hso
              rw [hso] at hR
              have u1 : ((c1 : Int) == 33) = false := by simp; omega
              have u2 : ((c1 : Int) == 47) = false := by simp; omega
              have u3 : ((c1 : Int) == 63) = false := by simp; omega
              repeat (first
                | refine sk_seq ?_
                | refine sk_region ?_
                | refine sk_ops_nil ?_
                | refine sk_block ?_
                | refine sk_blk ?_
                | refine sk_skip ?_
                | refine sk_exit rfl ?_
                | ((first | (apply sk_r; rfl; rfl) | (apply sk_w; rfl; rfl) | (apply sk_i; rfl) | (apply sk_g; rfl; rfl)); (simp only [go_sem, Nat.reduceLT, Nat.reduceLeDiff, Nat.reduceEqDiff, Nat.reduceAdd, Nat.reduceSub, Nat.reduceMul, reduceIte, reduceCtorEq, h0, h4, f2, q2, hc1, u1, u2, u3] <;> rfl); (first | refine sk_id ?_ | refine cs_t ?_ | refine cs_f ?_ | refine gs_t rfl ?_ | refine gs_f rfl ?_)))
              exact sk_stop ⟨f, by omega, f, _, rfl, by omega, by omega, hR, rfl, (by first | (simp only [go_sem, Nat.reduceLT, Nat.reduceLeDiff, Nat.reduceEqDiff, Nat.reduceAdd, Nat.reduceSub, Nat.reduceMul, reduceIte, reduceCtorEq, h0] <;> rfl) | fail), (by first | (simp only [go_sem, Nat.reduceLT, Nat.reduceLeDiff, Nat.reduceEqDiff, Nat.reduceAdd, Nat.reduceSub, Nat.reduceMul, reduceIte, reduceCtorEq] <;> rfl) | fail)⟩
          · -- a comment
            have hp4 := pre_len hw
            simp only [List.length_drop, List.length_cons, List.length_nil] at hp4
            have h33 : c1 = 33 := by
              have := of_decide_eq_true hw
              rw [drop_some hc, drop_some hc1] at this
              simp at this
              exact this.2.1
            have hma : metaAt s p = false := noMeta (by
              unfold standsAt
              rw [Bool.and_eq_false_iff]
              refine .inr (decide_eq_false fun e => ?_)
              have := congrArg (fun l => l[1]?) e
              simp only [List.getElem?_map, List.getElem?_drop, List.getElem?_take] at this
              rw [if_pos (by simp), hc1, h33] at this
              simp [low] at this)
            rw [e4, hw] at s19
            have hso : skipOf s p = if indexN (s.drop (p + 2)) C3w = -1 then s.length else p + 2 + (indexN (s.drop (p + 2)) C3w).toNat + 2 := by
              unfold skipOf
              rw [if_neg (by rw [hc, hc60]; simp [hp1]), if_pos hw]
            rw [if_neg (by simp [hma]), hso] at hR
            obtain ⟨T, hpT, hTl, hno, hT⟩ : ∃ T, p + 2 ≤ T ∧ T ≤ s.length ∧ (∀ k, p + 2 ≤ k → k < T → standsAt s k C3w = false) ∧
                ((T = s.length ∧ indexN (s.drop (p + 2)) C3w = -1) ∨ (T + 3 ≤ s.length ∧ standsAt s T C3w = true ∧ indexN (s.drop (p + 2)) C3w = ((T - (p + 2) : Nat) : Int))) := by
              rcases indexN_spec (s.drop (p + 2)) C3w with ⟨h1, h2⟩ | ⟨i, h1, h2, h3, h5⟩
              · refine ⟨s.length, by omega, Nat.le_refl _, fun k hk hk2 => ?_, .inl ⟨rfl, h1⟩⟩
                rw [stands_plain (by unfold NL; decide) (by omega)]
                have := h2 (k - (p + 2)) (by rw [List.length_drop]; omega)
                rw [List.drop_drop, show p + 2 + (k - (p + 2)) = k by omega] at this
                exact this
              · have hl := (pre_take h3).1
                simp only [List.length_drop, List.length_cons, List.length_nil] at hl
                refine ⟨p + 2 + i, by omega, by omega, fun k hk hk2 => ?_, .inr ⟨by omega, ?_, by rw [h1]; congr 1; omega⟩⟩
                · rw [stands_plain (by unfold NL; decide) (by omega)]
                  have := h5 (k - (p + 2)) (by omega)
                  rw [List.drop_drop, show p + 2 + (k - (p + 2)) = k by omega] at this
                  exact this
                · rw [stands_plain (by unfold NL; decide) (by omega)]
                  rw [List.drop_drop] at h3
                  exact h3
            repeat (first
              | refine sk_seq ?_
              | refine sk_region ?_
              | refine sk_ops_nil ?_
              | refine sk_block ?_
              | refine sk_blk ?_
              | refine sk_skip ?_
              | refine sk_exit rfl ?_
              | ((first | (apply sk_r; rfl; rfl) | (apply sk_w; rfl; rfl) | (apply sk_i; rfl) | (apply sk_g; rfl; rfl)); (simp only [go_sem, Nat.reduceLT, Nat.reduceLeDiff, Nat.reduceEqDiff, Nat.reduceAdd, Nat.reduceSub, Nat.reduceMul, reduceIte, reduceCtorEq, h0, h4, f1, f2, f3, f4, g1, g2, hc, kC] <;> rfl); (first | refine sk_id ?_ | refine cs_t ?_ | refine cs_f ?_ | refine gs_t rfl ?_ | refine gs_f rfl ?_))
              | ((first | (apply sk_c; rfl; rfl)); (simp only [go_sem, Nat.reduceLT, Nat.reduceLeDiff, Nat.reduceEqDiff, Nat.reduceAdd, Nat.reduceSub, Nat.reduceMul, reduceIte, reduceCtorEq, h0, h4, f1, f2, f3, f4, g1, g2, hc, kC] <;> rfl); (first
                  | (refine (s19 _).mono ?_; rintro _ τ2 ⟨rfl, hτ2⟩; rw [hτ2])); refine sk_id ?_))
            refine sk_cut (fun fr σ' => σ' = σ ∧ fget fr 0 = .str s ∧ fget fr 5 = .int .i64 (T : Nat)) ?_ ?_
            · refine sk_loop (fun m fr σ' => ∃ k, m = T - k ∧ p + 2 ≤ k ∧ k ≤ T ∧ σ' = σ ∧ fget fr 0 = .str s ∧ fget fr 5 = .int .i64 (k : Nat)) _
                ⟨p + 2, rfl, Nat.le_refl _, hpT, rfl, (by first | (simp only [go_sem, Nat.reduceLT, Nat.reduceLeDiff, Nat.reduceEqDiff, Nat.reduceAdd, Nat.reduceSub, Nat.reduceMul, reduceIte, reduceCtorEq, h0] <;> rfl) | fail), (by first | (simp only [go_sem, Nat.reduceLT, Nat.reduceLeDiff, Nat.reduceEqDiff, Nat.reduceAdd, Nat.reduceSub, Nat.reduceMul, reduceIte, reduceCtorEq] <;> rfl) | fail)⟩ ?_
              clear h0 h4 hτ
              rintro _ fr τ ⟨k, rfl, hk, hkT, hτ, h0, h5⟩
              rw [hτ]
              have q4 : IntKind.wrap .i64 ((k : Int) + 1) = ((k + 1 : Nat) : Int) := wrap_i64 (by omega) (by omega)
              have s19k := fun σ => f19_tr s C3w k hsd (by omega) (by omega) (by decide) σ
              by_cases hkl : k < s.length
              · have q1 : decide ((k : Int) < (s.length : Int)) = true := decide_eq_true (by omega)
                by_cases hlt : k < T
                · rw [hno k hk hlt] at s19k
                  repeat (first
                    | refine sk_seq ?_
                    | refine sk_region ?_
                    | refine sk_ops_nil ?_
                    | refine sk_block ?_
                    | refine sk_blk ?_
                    | refine sk_skip ?_
                    | refine sk_exit rfl ?_
                    | ((first | (apply sk_r; rfl; rfl) | (apply sk_w; rfl; rfl) | (apply sk_i; rfl) | (apply sk_g; rfl; rfl)); (simp only [go_sem, Nat.reduceLT, Nat.reduceLeDiff, Nat.reduceEqDiff, Nat.reduceAdd, Nat.reduceSub, Nat.reduceMul, reduceIte, reduceCtorEq, h0, h5, q1, q4, kD] <;> rfl); (first | refine sk_id ?_ | refine cs_t ?_ | refine cs_f ?_ | refine gs_t rfl ?_ | refine gs_f rfl ?_))
                    | ((first | (apply sk_c; rfl; rfl)); (simp only [go_sem, Nat.reduceLT, Nat.reduceLeDiff, Nat.reduceEqDiff, Nat.reduceAdd, Nat.reduceSub, Nat.reduceMul, reduceIte, reduceCtorEq, h0, h5, q1, q4, kD] <;> rfl); (first
                        | (refine (s19k _).mono ?_; rintro _ τ2 ⟨rfl, hτ2⟩; rw [hτ2])); refine sk_id ?_))
                  exact sk_stop ⟨T - (k + 1), by omega, k + 1, rfl, by omega, by omega, rfl, (by first | (simp only [go_sem, Nat.reduceLT, Nat.reduceLeDiff, Nat.reduceEqDiff, Nat.reduceAdd, Nat.reduceSub, Nat.reduceMul, reduceIte, reduceCtorEq, h0] <;> rfl) | fail), (by first | (simp only [go_sem, Nat.reduceLT, Nat.reduceLeDiff, Nat.reduceEqDiff, Nat.reduceAdd, Nat.reduceSub, Nat.reduceMul, reduceIte, reduceCtorEq] <;> rfl) | fail)⟩
                · have hkT : k = T := by omega
                  subst hkT
                  rcases hT with ⟨hT, _⟩ | ⟨_, hT, _⟩
                  · omega
                  · rw [hT] at s19k
                    repeat (first
                      | refine sk_seq ?_
                      | refine sk_region ?_
                      | refine sk_ops_nil ?_
                      | refine sk_block ?_
                      | refine sk_blk ?_
                      | refine sk_skip ?_
                      | refine sk_exit rfl ?_
                      | ((first | (apply sk_r; rfl; rfl) | (apply sk_w; rfl; rfl) | (apply sk_i; rfl) | (apply sk_g; rfl; rfl)); (simp only [go_sem, Nat.reduceLT, Nat.reduceLeDiff, Nat.reduceEqDiff, Nat.reduceAdd, Nat.reduceSub, Nat.reduceMul, reduceIte, reduceCtorEq, h0, h5, q1, q4, kD] <;> rfl); (first | refine sk_id ?_ | refine cs_t ?_ | refine cs_f ?_ | refine gs_t rfl ?_ | refine gs_f rfl ?_))
                      | ((first | (apply sk_c; rfl; rfl)); (simp only [go_sem, Nat.reduceLT, Nat.reduceLeDiff, Nat.reduceEqDiff, Nat.reduceAdd, Nat.reduceSub, Nat.reduceMul, reduceIte, reduceCtorEq, h0, h5, q1, q4, kD] <;> rfl); (first
                          | (refine (s19k _).mono ?_; rintro _ τ2 ⟨rfl, hτ2⟩; rw [hτ2])); refine sk_id ?_))
                    exact sk_end ⟨rfl, (by first | (simp only [go_sem, Nat.reduceLT, Nat.reduceLeDiff, Nat.reduceEqDiff, Nat.reduceAdd, Nat.reduceSub, Nat.reduceMul, reduceIte, reduceCtorEq, h0] <;> rfl) | fail), (by first | (simp only [go_sem, Nat.reduceLT, Nat.reduceLeDiff, Nat.reduceEqDiff, Nat.reduceAdd, Nat.reduceSub, Nat.reduceMul, reduceIte, reduceCtorEq, h5] <;> rfl) | fail)⟩
              · have q1 : decide ((k : Int) < (s.length : Int)) = false := decide_eq_false (by omega)
                have hkT : k = T := by omega
                repeat (first
                  | refine sk_seq ?_
                  | refine sk_region ?_
                  | refine sk_ops_nil ?_
                  | refine sk_block ?_
                  | refine sk_blk ?_
                  | refine sk_skip ?_
                  | refine sk_exit rfl ?_
                  | ((first | (apply sk_r; rfl; rfl) | (apply sk_w; rfl; rfl) | (apply sk_i; rfl) | (apply sk_g; rfl; rfl)); (simp only [go_sem, Nat.reduceLT, Nat.reduceLeDiff, Nat.reduceEqDiff, Nat.reduceAdd, Nat.reduceSub, Nat.reduceMul, reduceIte, reduceCtorEq, h0, h5, q1] <;> rfl); (first | refine sk_id ?_ | refine cs_t ?_ | refine cs_f ?_ | refine gs_t rfl ?_ | refine gs_f rfl ?_)))
                exact sk_end ⟨rfl, (by first | (simp only [go_sem, Nat.reduceLT, Nat.reduceLeDiff, Nat.reduceEqDiff, Nat.reduceAdd, Nat.reduceSub, Nat.reduceMul, reduceIte, reduceCtorEq, h0] <;> rfl) | fail), by rw [← hkT]; exact (by first | (simp only [go_sem, Nat.reduceLT, Nat.reduceLeDiff, Nat.reduceEqDiff, Nat.reduceAdd, Nat.reduceSub, Nat.reduceMul, reduceIte, reduceCtorEq, h5] <;> rfl) | fail)⟩
            clear h0 h4 hτ hno
            rintro fr τ ⟨hτ, h0, h5⟩
            rw [hτ]
            rcases hT with ⟨hT, hi⟩ | ⟨hT7, _, hi⟩
            · have q1 : ((T : Int) == (s.length : Int)) = true := by simp; omega
              rw [if_pos hi, prescanGo_end (by omega)] at hR
              repeat (first
                | refine sk_seq ?_
                | refine sk_region ?_
                | refine sk_ops_nil ?_
                | refine sk_block ?_
                | refine sk_blk ?_
                | refine sk_skip ?_
                | refine sk_exit rfl ?_
                | ((first | (apply sk_r; rfl; rfl) | (apply sk_w; rfl; rfl) | (apply sk_i; rfl) | (apply sk_g; rfl; rfl)); (simp only [go_sem, Nat.reduceLT, Nat.reduceLeDiff, Nat.reduceEqDiff, Nat.reduceAdd, Nat.reduceSub, Nat.reduceMul, reduceIte, reduceCtorEq, h0, h5, q1] <;> rfl); (first | refine sk_id ?_ | refine cs_t ?_ | refine cs_f ?_ | refine gs_t rfl ?_ | refine gs_f rfl ?_)))
              exact sk_cut_ret ⟨_, (by first | (simp only [aRet, Tryd.results9, aResults, aResult, go_sem, Nat.reduceLT, Nat.reduceLeDiff, Nat.reduceEqDiff, Nat.reduceAdd, Nat.reduceSub, Nat.reduceMul, reduceIte, reduceCtorEq] <;> rfl) | fail), by rw [← hR]; rfl, rfl⟩
            · have q1 : ((T : Int) == (s.length : Int)) = false := by simp; omega
              have q2 : IntKind.wrap .i64 ((T : Int) + 2) = ((T + 2 : Nat) : Int) := wrap_i64 (by omega) (by omega)
              have q3 : IntKind.wrap .i64 (((T + 2 : Nat) : Int) + 1) = ((T + 2 + 1 : Nat) : Int) := wrap_i64 (by omega) (by omega)
              have hTT : p + 2 + ((T - (p + 2) : Nat) : Int).toNat + 2 = T + 2 := by omega
              rw [hi, if_neg (by omega), hTT] at hR
              repeat (first
                | refine sk_seq ?_
                | refine sk_region ?_
                | refine sk_ops_nil ?_
                | refine sk_block ?_
                | refine sk_blk ?_
                | refine sk_skip ?_
                | refine sk_exit rfl ?_
                | ((first | (apply sk_r; rfl; rfl) | (apply sk_w; rfl; rfl) | (apply sk_i; rfl) | (apply sk_g; rfl; rfl)); (simp only [go_sem, Nat.reduceLT, Nat.reduceLeDiff, Nat.reduceEqDiff, Nat.reduceAdd, Nat.reduceSub, Nat.reduceMul, reduceIte, reduceCtorEq, h0, h5, q1, q2, q3] <;> rfl); (first | refine sk_id ?_ | refine cs_t ?_ | refine cs_f ?_ | refine gs_t rfl ?_ | refine gs_f rfl ?_)))
              exact sk_stop ⟨f, by omega, f, _, rfl, by omega, by omega, hR, rfl, (by first | (simp only [go_sem, Nat.reduceLT, Nat.reduceLeDiff, Nat.reduceEqDiff, Nat.reduceAdd, Nat.reduceSub, Nat.reduceMul, reduceIte, reduceCtorEq, h0] <;> rfl) | fail), (by first | (simp only [go_sem, Nat.reduceLT, Nat.reduceLeDiff, Nat.reduceEqDiff, Nat.reduceAdd, Nat.reduceSub, Nat.reduceMul, reduceIte, reduceCtorEq] <;> rfl) | fail)⟩
      · have g1 : ((c : Int) != 60) = true := by simp; omega
        have hma : metaAt s p = false := noMeta (by
          unfold standsAt
          rw [Bool.and_eq_false_iff]
          refine .inr (decide_eq_false fun e => hc60 ?_)
          have := congrArg (fun l => l[0]?) e
          simp only [List.getElem?_map, List.getElem?_drop, List.getElem?_take] at this
          rw [if_pos (by simp), Nat.add_zero, hc] at this
          simp at this
          exact (low_eq (by omega)).1 this)
        have hso : skipOf s p = p := by unfold skipOf; rw [if_pos (.inl (by rw [hc]; simpa using hc60))]
        rw [if_neg (by simp [hma]), hso] at hR
        repeat (first
          | refine sk_seq ?_
          | refine sk_region ?_
          | refine sk_ops_nil ?_
          | refine sk_block ?_
          | refine sk_blk ?_
          | refine sk_skip ?_
          | refine sk_exit rfl ?_
          | ((first | (apply sk_r; rfl; rfl) | (apply sk_w; rfl; rfl) | (apply sk_i; rfl) | (apply sk_g; rfl; rfl)); (simp only [go_sem, Nat.reduceLT, Nat.reduceLeDiff, Nat.reduceEqDiff, Nat.reduceAdd, Nat.reduceSub, Nat.reduceMul, reduceIte, reduceCtorEq, h0, h4, f1, f2, f4, g1, hc] <;> rfl); (first | refine sk_id ?_ | refine cs_t ?_ | refine cs_f ?_ | refine gs_t rfl ?_ | refine gs_f rfl ?_)))
        exact sk_stop ⟨f, by omega, f, _, rfl, by omega, by omega, hR, rfl, (by first | (simp only [go_sem, Nat.reduceLT, Nat.reduceLeDiff, Nat.reduceEqDiff, Nat.reduceAdd, Nat.reduceSub, Nat.reduceMul, reduceIte, reduceCtorEq, h0] <;> rfl) | fail), (by first | (simp only [go_sem, Nat.reduceLT, Nat.reduceLeDiff, Nat.reduceEqDiff, Nat.reduceAdd, Nat.reduceSub, Nat.reduceMul, reduceIte, reduceCtorEq] <;> rfl) | fail)⟩
    · have f1 : decide ((p : Int) < (s.length : Int)) = false := decide_eq_false (by omega)
      rw [prescanGo_end (by omega)] at hR
      repeat (first
        | refine sk_seq ?_
        | refine sk_region ?_
        | refine sk_ops_nil ?_
        | refine sk_block ?_
        | refine sk_blk ?_
        | refine sk_skip ?_
        | refine sk_exit rfl ?_
        | ((first | (apply sk_r; rfl; rfl) | (apply sk_w; rfl; rfl) | (apply sk_i; rfl) | (apply sk_g; rfl; rfl)); (simp only [go_sem, Nat.reduceLT, Nat.reduceLeDiff, Nat.reduceEqDiff, Nat.reduceAdd, Nat.reduceSub, Nat.reduceMul, reduceIte, reduceCtorEq, h0, h4, f1] <;> rfl); (first | refine sk_id ?_ | refine cs_t ?_ | refine cs_f ?_ | refine gs_t rfl ?_ | refine gs_f rfl ?_)))
      exact sk_end ⟨rfl, hR.symm⟩
  rintro fr τ ⟨hτ, hR⟩
  rw [hτ, hR]
  repeat (first
    | refine sk_seq ?_
    | refine sk_region ?_
    | refine sk_ops_nil ?_
    | refine sk_block ?_
    | refine sk_blk ?_
    | refine sk_skip ?_
    | refine sk_exit rfl ?_
    | ((first | (apply sk_r; rfl; rfl) | (apply sk_w; rfl; rfl) | (apply sk_i; rfl) | (apply sk_g; rfl; rfl)); (simp only [go_sem, Nat.reduceLT, Nat.reduceLeDiff, Nat.reduceEqDiff, Nat.reduceAdd, Nat.reduceSub, Nat.reduceMul, reduceIte, reduceCtorEq] <;> rfl); (first | refine sk_id ?_ | refine cs_t ?_ | refine cs_f ?_ | refine gs_t rfl ?_ | refine gs_f rfl ?_)))
  exact sk_ret ⟨_, (by first | (simp only [aRet, Tryd.results9, aResults, aResult, go_sem, Nat.reduceLT, Nat.reduceLeDiff, Nat.reduceEqDiff, Nat.reduceAdd, Nat.reduceSub, Nat.reduceMul, reduceIte, reduceCtorEq] <;> rfl) | fail), rfl, rfl⟩
end Go.Proofs.YtophnlmdcidolaaDoor
