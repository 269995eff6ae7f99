import Derived.Test.YtophnlmdcidolaaDoorP15
set_option linter.all false
namespace Go.Proofs.YtophnlmdcidolaaDoor
open Go Go.Am
set_option maxHeartbeats 8000000
set_option maxRecDepth 100000
abbrev M5 : List Nat := [60, 109, 101, 116, 97]
/-- does a meta element begin here? -/
def metaAt (s : List Nat) (p : Nat) : Bool := standsAt s p M5 && (match s[p + 5]? with
  | none => false
  | some c => isIn B5 c || decide (c = 47))
def prescanGo (s : List Nat) : Nat → Nat → Option (List Nat)
  | 0, _ => none
  | f + 1, p => if p < s.length then
      (if metaAt s p = true then (if (metaOf s (p + 5)).1 = [] then prescanGo s f ((metaOf s (p + 5)).2 + 1) else some (metaOf s (p + 5)).1)
      else prescanGo s f (skipOf s p + 1))
    else none
def prescanOf (d : List Nat) : Option (List Nat) := prescanGo (d.take 1024) ((d.take 1024).length + 1) 0
theorem prescanGo_end {s : List Nat} {f p : Nat} (h : s.length ≤ p) : prescanGo s f p = none := by
  cases f with
  | zero => rfl
  | succ f => unfold prescanGo; rw [if_neg (by omega)]
theorem metaAt_lt {s : List Nat} {p : Nat} (h : metaAt s p = true) : p + 5 < s.length := by
  unfold metaAt at h
  rw [Bool.and_eq_true] at h
  cases hc : s[p + 5]? with
  | none => rw [hc] at h; simp at h
  | some c => exact (List.getElem?_eq_some_iff.1 hc).1
theorem prescan_ok {s : List Nat} (hd : ∀ c ∈ s, c < 256) : ∀ {f p : Nat} {n : List Nat}, prescanGo s f p = some n → Ok s.length n
  | 0, _, _, h => by cases h
  | f + 1, p, n, h => by
    unfold prescanGo at h
    split at h
    · split at h
      · rename_i hm
        have hp5 := metaAt_lt hm
        split at h
        · exact prescan_ok hd h
        · cases h; exact (metaOf_all hd (by omega)).1
      · exact prescan_ok hd h
    · cases h
theorem low_eq {c x : Nat} (hx : ¬(97 ≤ x ∧ x ≤ 122) ∧ ¬(65 ≤ x ∧ x ≤ 90)) : low c = x ↔ c = x := by
  unfold low
  split
  · constructor <;> intro h <;> omega
  · exact Iff.rfl
theorem low_blank (c : Nat) : isIn B5 (low c) = isIn B5 c := by
  rw [Bool.eq_iff_iff, isIn_iff, isIn_iff]
  simp only [List.mem_cons, List.not_mem_nil, or_false]
  rw [low_eq (by omega), low_eq (by omega), low_eq (by omega), low_eq (by omega), low_eq (by omega)]
theorem f16_tr (d : List Nat) (hd : ∀ c ∈ d, c < 256) {σ : AHeap} {m : Int} (hm : σ.m.get 0 = some (.cells [.int .i64 m] true 0 [])) :
    Tr Tryd.prog 16 [.str d] σ fun v σ' => v = prescanAV (prescanOf d) ∧ σ' = σ := by
  refine sk_body (m := 60) Tryd.func16 rfl (by decide) rfl ?_
  have kM : bytesOf { data := #[60, 109, 101, 116, 97] } = M5 := rfl
  have e0 : (0 : Int) ≤ 0 := by omega
  obtain ⟨s, hs⟩ : ∃ s, s = d.take 1024 := ⟨_, rfl⟩
  have hsd : ∀ c ∈ s, c < 256 := fun c hc => hd c (List.mem_of_mem_take (hs ▸ hc))
  have hsl : s.length ≤ 1024 := by rw [hs, List.length_take]; omega
  have e1 : (if (1024 : Int) < (d.length : Int) then (1024 : Int) else (d.length : Int)) = ((min 1024 d.length : Nat) : Int) := by split <;> omega
  have e2 : (0 : Int) ≤ ((min 1024 d.length : Nat) : Int) := by omega
  have e3 : ((min 1024 d.length : Nat) : Int) ≤ (d.length : Int) := by omega
  have e4 : d.take (min 1024 d.length) = s := by rw [hs]; rw [← List.take_take, List.take_length]
  repeat (first
    | refine sk_seq ?_
    | refine sk_region ?_
    | refine sk_ops_nil ?_
    | refine sk_block ?_
    | refine sk_blk ?_
    | refine sk_skip ?_
    | refine sk_exit rfl ?_
    | ((first | (apply sk_r; rfl; rfl) | (apply sk_w; rfl; rfl) | (apply sk_i; rfl) | (apply sk_g; rfl; rfl)); (simp only [go_sem, Nat.reduceLT, Nat.reduceLeDiff, Nat.reduceEqDiff, Nat.reduceAdd, Nat.reduceSub, Nat.reduceMul, reduceIte, reduceCtorEq, aFold, aMin2, e0, e1, e2, e3, e4, and_self, List.drop_zero, Int.toNat_zero] <;> rfl); (first | refine sk_id ?_ | refine cs_t ?_ | refine cs_f ?_ | refine gs_t rfl ?_ | refine gs_f rfl ?_)))
  have hres : prescanOf d = prescanGo s (s.length + 1) 0 := by unfold prescanOf; rw [← hs]
  rw [hres]
  refine sk_cut (fun fr σ' => σ' = σ ∧ prescanGo s (s.length + 1) 0 = none) ?_ ?_
  · refine sk_loop (fun m fr σ' => ∃ f p, m = f ∧ s.length - p < f ∧ p ≤ s.length + 1 ∧ prescanGo s f p = prescanGo s (s.length + 1) 0 ∧ σ' = σ ∧ fget fr 0 = .str s ∧ fget fr 4 = .int .i64 (p : Nat)) _
      ⟨s.length + 1, 0, rfl, by omega, by omega, rfl, rfl, (by first | (simp only [go_sem, Nat.reduceLT, Nat.reduceLeDiff, Nat.reduceEqDiff, Nat.reduceAdd, Nat.reduceSub, Nat.reduceMul, reduceIte, reduceCtorEq] <;> rfl) | fail), (by first | (simp only [go_sem, Nat.reduceLT, Nat.reduceLeDiff, Nat.reduceEqDiff, Nat.reduceAdd, Nat.reduceSub, Nat.reduceMul, reduceIte, reduceCtorEq] <;> rfl) | fail)⟩ ?_
    rintro f fr τ ⟨_, p, rfl, hf, hpl, hR, hτ, h0, h4⟩
    rw [hτ]
    obtain ⟨f, rfl⟩ : ∃ g, f = g + 1 := ⟨f - 1, by omega⟩
    by_cases hp : p < s.length
    · have f1 : decide ((p : Int) < (s.length : Int)) = true := decide_eq_true (by omega)
      have f2 : IntKind.wrap .i64 ((p : Int) + 6) = ((p + 6 : Nat) : Int) := wrap_i64 (by omega) (by omega)
      obtain ⟨b, hb⟩ : ∃ b, b = min (p + 6) s.length := ⟨_, rfl⟩
      have f3 : (if (s.length : Int) < ((p + 6 : Nat) : Int) then (s.length : Int) else ((p + 6 : Nat) : Int)) = (b : Int) := by rw [hb]; split <;> omega
      have f4 : (0 : Int) ≤ (p : Int) := by omega
      have f5 : (p : Int) ≤ (b : Int) := by omega
      have f6 : (b : Int) ≤ (s.length : Int) := by omega
      have hpc : ∀ c ∈ (s.take b).drop p, c < 256 := fun c hc => hsd c (List.mem_of_mem_take (List.mem_of_mem_drop hc))
      have hpcl : ((s.take b).drop p).length = b - p := by rw [List.length_drop, List.length_take]; omega
      have s32 := fun σ => f32_tr ((s.take b).drop p) hpc (by omega) σ
      obtain ⟨h, hh⟩ : ∃ h, h = ((s.take b).drop p).map low := ⟨_, rfl⟩
      rw [← hh] at s32
      have hhl : h.length = b - p := by rw [hh, List.length_map, hpcl]
      have hget : ∀ i, i < b - p → h[i]? = (s[p + i]?).map low := fun i hi => by rw [hh, List.getElem?_map, List.getElem?_drop, List.getElem?_take, if_pos (by omega)]
      have f7 : IntKind.wrap .i64 ((p : Int) + 5) = ((p + 5 : Nat) : Int) := wrap_i64 (by omega) (by omega)
      have s35 := f35_tr p s hsd hp (by omega) hm
      have hsk := skipOf_all hsd hp
      have f8 : IntKind.wrap .i64 (((skipOf s p : Nat) : Int) + 1) = ((skipOf s p + 1 : Nat) : Int) := wrap_i64 (by omega) (by omega)
      rw [prescanGo, if_pos hp] at hR
      -- the word
      by_cases h6 : b - p = 6
      · have g1 : ((h.length : Int) == 6) = true := by simp; omega
        have g2 : (0 : Int) ≤ 5 := by omega
        have g3 : (5 : Int) ≤ (h.length : Int) := by omega
        have t5 : Int.toNat 5 = 5 := rfl
        obtain ⟨c, hc⟩ := at_some (d := s) (k := p + 5) (by omega)
        have hc8 := hsd c (at_mem hc)
        have g4 : h[5]? = some (low c) := by rw [hget 5 (by omega), hc]; rfl
        have hst : standsAt s p M5 = beqL (h.take 5) M5 := by
          unfold standsAt
          rw [decide_eq_true (show p + M5.length ≤ s.length by simp; omega), Bool.true_and, beqL_eq]
          congr 1
          rw [hh, List.map_drop, List.map_drop, List.map_take, List.map_take, List.take_drop, List.take_take, show min (p + 5) b = p + M5.length by simp; omega]
        cases hw : beqL (h.take 5) M5
        · rw [hw] at hst
          have hma : metaAt s p = false := by unfold metaAt; rw [hst]; rfl
          rw [if_neg (by simp [hma])] at hR
          repeat (first
            | refine sk_seq ?_
            | refine sk_region ?_
            | refine sk_ops_nil ?_
            | refine sk_block ?_
            | refine sk_blk ?_
            | refine sk_skip ?_
            | refine sk_exit rfl ?_
            | ((first | (apply sk_r; rfl; rfl) | (apply sk_w; rfl; rfl) | (apply sk_i; rfl) | (apply sk_g; rfl; rfl)); (simp only [go_sem, Nat.reduceLT, Nat.reduceLeDiff, Nat.reduceEqDiff, Nat.reduceAdd, Nat.reduceSub, Nat.reduceMul, reduceIte, reduceCtorEq, aFold, aMin2, kM, h0, h4, f1, f2, f3, f4, f5, f6, g1, g2, g3, t5, hw, f8, and_self, List.drop_zero, Int.toNat_zero, e0] <;> rfl); (first | refine sk_id ?_ | refine cs_t ?_ | refine cs_f ?_ | refine gs_t rfl ?_ | refine gs_f rfl ?_))
            | ((first | (apply sk_c; rfl; rfl)); (simp only [go_sem, Nat.reduceLT, Nat.reduceLeDiff, Nat.reduceEqDiff, Nat.reduceAdd, Nat.reduceSub, Nat.reduceMul, reduceIte, reduceCtorEq, aFold, aMin2, kM, h0, h4, f1, f2, f3, f4, f5, f6, g1, g2, g3, t5, hw, f8, and_self, List.drop_zero, Int.toNat_zero, e0] <;> rfl); (first
                | (refine (s32 _).mono ?_; rintro _ τ2 ⟨rfl, hτ2⟩; rw [hτ2])
                | (refine s35.mono ?_; rintro _ τ2 ⟨rfl, hτ2⟩; rw [hτ2])); refine sk_id ?_))
          exact sk_stop ⟨f, by omega, f, _, rfl, by omega, by omega, hR, rfl, (by first | (simp only [go_sem, Nat.reduceLT, Nat.reduceLeDiff, Nat.reduceEqDiff, Nat.reduceAdd, Nat.reduceSub, Nat.reduceMul, reduceIte, reduceCtorEq, h0] <;> rfl) | fail), (by first | (simp only [go_sem, Nat.reduceLT, Nat.reduceLeDiff, Nat.reduceEqDiff, Nat.reduceAdd, Nat.reduceSub, Nat.reduceMul, reduceIte, reduceCtorEq] <;> rfl) | fail)⟩
        · rw [hw] at hst
          have s33 := fun σ => f33_tr (low c) (low_lt hc8) σ
          rw [show decide (idx [9, 10, 12, 13, 32] (low c) ≥ 0) = isIn B5 c from low_blank c] at s33
          have hmr := metaOf_all hsd (k := p + 5) (by omega)
          have f9 : IntKind.wrap .i64 (((metaOf s (p + 5)).2 : Int) + 1) = (((metaOf s (p + 5)).2 + 1 : Nat) : Int) := wrap_i64 (by omega) (by omega)
          have s34 := f34_tr (p + 5) s hsd (by omega) (by omega) hm
          obtain ⟨⟨nm, en⟩, hmo⟩ : ∃ r, metaOf s (p + 5) = r := ⟨_, rfl⟩
          rw [hmo] at hmr f9 s34 hR
          simp only [metaAV] at hmr f9 s34 hR
          have hfin : metaAt s p = (isIn B5 c || decide (c = 47)) := by unfold metaAt; rw [hst, hc]; rfl
          by_cases h47 : c = 47
          · have g5 : (((low c : Nat) : Int) == 47) = true := by rw [(low_eq (by omega)).2 h47]; rfl
            rw [if_pos (by rw [hfin]; simp [h47])] at hR
            by_cases hn : nm = []
            · have g6 : beqL nm [] = true := by rw [beqL_eq]; exact decide_eq_true hn
              rw [if_pos hn] at hR
              repeat (first
                | refine sk_seq ?_
                | refine sk_region ?_
                | refine sk_ops_nil ?_
                | refine sk_block ?_
                | refine sk_blk ?_
                | refine sk_skip ?_
                | refine sk_exit rfl ?_
                | ((first | (apply sk_r; rfl; rfl) | (apply sk_w; rfl; rfl) | (apply sk_i; rfl) | (apply sk_g; rfl; rfl)); (simp only [go_sem, Nat.reduceLT, Nat.reduceLeDiff, Nat.reduceEqDiff, Nat.reduceAdd, Nat.reduceSub, Nat.reduceMul, reduceIte, reduceCtorEq, aFold, aMin2, kM, h0, h4, f1, f2, f3, f4, f5, f6, f7, g1, g2, g3, g4, g5, g6, t5, hw, f9, bytes_nil, and_self, List.drop_zero, Int.toNat_zero, e0] <;> rfl); (first | refine sk_id ?_ | refine cs_t ?_ | refine cs_f ?_ | refine gs_t rfl ?_ | refine gs_f rfl ?_))
                | ((first | (apply sk_c; rfl; rfl)); (simp only [go_sem, Nat.reduceLT, Nat.reduceLeDiff, Nat.reduceEqDiff, Nat.reduceAdd, Nat.reduceSub, Nat.reduceMul, reduceIte, reduceCtorEq, aFold, aMin2, kM, h0, h4, f1, f2, f3, f4, f5, f6, f7, g1, g2, g3, g4, g5, g6, t5, hw, f9, bytes_nil, and_self, List.drop_zero, Int.toNat_zero, e0] <;> rfl); (first
                    | (refine (s32 _).mono ?_; rintro _ τ2 ⟨rfl, hτ2⟩; rw [hτ2])
                    | (refine s34.mono ?_; rintro _ τ2 ⟨rfl, hτ2⟩; rw [hτ2])); refine sk_id ?_))
              exact sk_stop ⟨f, by omega, f, _, rfl, by omega, by omega, hR, rfl, (by first | (simp only [go_sem, Nat.reduceLT, Nat.reduceLeDiff, Nat.reduceEqDiff, Nat.reduceAdd, Nat.reduceSub, Nat.reduceMul, reduceIte, reduceCtorEq, h0] <;> rfl) | fail), (by first | (simp only [go_sem, Nat.reduceLT, Nat.reduceLeDiff, Nat.reduceEqDiff, Nat.reduceAdd, Nat.reduceSub, Nat.reduceMul, reduceIte, reduceCtorEq] <;> rfl) | fail)⟩
            · have g6 : beqL nm [] = false := by rw [beqL_eq]; exact decide_eq_false hn
              rw [if_neg hn] at hR
              repeat (first
                | refine sk_seq ?_
                | refine sk_region ?_
                | refine sk_ops_nil ?_
                | refine sk_block ?_
                | refine sk_blk ?_
                | refine sk_skip ?_
                | refine sk_exit rfl ?_
                | ((first | (apply sk_r; rfl; rfl) | (apply sk_w; rfl; rfl) | (apply sk_i; rfl) | (apply sk_g; rfl; rfl)); (simp only [go_sem, Nat.reduceLT, Nat.reduceLeDiff, Nat.reduceEqDiff, Nat.reduceAdd, Nat.reduceSub, Nat.reduceMul, reduceIte, reduceCtorEq, aFold, aMin2, kM, h0, h4, f1, f2, f3, f4, f5, f6, f7, g1, g2, g3, g4, g5, g6, t5, hw, f9, bytes_nil, and_self, List.drop_zero, Int.toNat_zero, e0] <;> rfl); (first | refine sk_id ?_ | refine cs_t ?_ | refine cs_f ?_ | refine gs_t rfl ?_ | refine gs_f rfl ?_))
                | ((first | (apply sk_c; rfl; rfl)); (simp only [go_sem, Nat.reduceLT, Nat.reduceLeDiff, Nat.reduceEqDiff, Nat.reduceAdd, Nat.reduceSub, Nat.reduceMul, reduceIte, reduceCtorEq, aFold, aMin2, kM, h0, h4, f1, f2, f3, f4, f5, f6, f7, g1, g2, g3, g4, g5, g6, t5, hw, f9, bytes_nil, and_self, List.drop_zero, Int.toNat_zero, e0] <;> rfl); (first
                    | (refine (s32 _).mono ?_; rintro _ τ2 ⟨rfl, hτ2⟩; rw [hτ2])
                    | (refine s34.mono ?_; rintro _ τ2 ⟨rfl, hτ2⟩; rw [hτ2])); refine sk_id ?_))
              exact sk_cut_ret ⟨_, (by first | (simp only [aRet, Tryd.results16, aResults, aResult, go_sem, Nat.reduceLT, Nat.reduceLeDiff, Nat.reduceEqDiff, Nat.reduceAdd, Nat.reduceSub, Nat.reduceMul, reduceIte, reduceCtorEq] <;> rfl) | fail), by rw [← hR]; rfl, rfl⟩
          · have g5 : (((low c : Nat) : Int) == 47) = false := by
              have : low c ≠ 47 := fun e => h47 ((low_eq (by omega)).1 e)
              simp; omega
            cases hbl : isIn B5 c
            · rw [hbl] at s33 hfin
              have hfin : metaAt s p = false := by rw [hfin]; simp [h47]
              rw [if_neg (by simp [hfin])] at hR
              repeat (first
                | refine sk_seq ?_
                | refine sk_region ?_
                | refine sk_ops_nil ?_
                | refine sk_block ?_
                | refine sk_blk ?_
                | refine sk_skip ?_
                | refine sk_exit rfl ?_
                | ((first | (apply sk_r; rfl; rfl) | (apply sk_w; rfl; rfl) | (apply sk_i; rfl) | (apply sk_g; rfl; rfl)); (simp only [go_sem, Nat.reduceLT, Nat.reduceLeDiff, Nat.reduceEqDiff, Nat.reduceAdd, Nat.reduceSub, Nat.reduceMul, reduceIte, reduceCtorEq, aFold, aMin2, kM, h0, h4, f1, f2, f3, f4, f5, f6, f7, g1, g2, g3, g4, g5, t5, hw, f8, and_self, List.drop_zero, Int.toNat_zero, e0] <;> rfl); (first | refine sk_id ?_ | refine cs_t ?_ | refine cs_f ?_ | refine gs_t rfl ?_ | refine gs_f rfl ?_))
                | ((first | (apply sk_c; rfl; rfl)); (simp only [go_sem, Nat.reduceLT, Nat.reduceLeDiff, Nat.reduceEqDiff, Nat.reduceAdd, Nat.reduceSub, Nat.reduceMul, reduceIte, reduceCtorEq, aFold, aMin2, kM, h0, h4, f1, f2, f3, f4, f5, f6, f7, g1, g2, g3, g4, g5, t5, hw, f8, and_self, List.drop_zero, Int.toNat_zero, e0] <;> rfl); (first
                    | (refine (s32 _).mono ?_; rintro _ τ2 ⟨rfl, hτ2⟩; rw [hτ2])
                    | (refine (s33 _).mono ?_; rintro _ τ2 ⟨rfl, hτ2⟩; rw [hτ2])
                    | (refine s35.mono ?_; rintro _ τ2 ⟨rfl, hτ2⟩; rw [hτ2])); refine sk_id ?_))
              exact sk_stop ⟨f, by omega, f, _, rfl, by omega, by omega, hR, rfl, (by first | (simp only [go_sem, Nat.reduceLT, Nat.reduceLeDiff, Nat.reduceEqDiff, Nat.reduceAdd, Nat.reduceSub, Nat.reduceMul, reduceIte, reduceCtorEq, h0] <;> rfl) | fail), (by first | (simp only [go_sem, Nat.reduceLT, Nat.reduceLeDiff, Nat.reduceEqDiff, Nat.reduceAdd, Nat.reduceSub, Nat.reduceMul, reduceIte, reduceCtorEq] <;> rfl) | fail)⟩
            · rw [hbl] at s33 hfin
              rw [if_pos (by rw [hfin]; rfl)] at hR
              by_cases hn : nm = []
              · have g6 : beqL nm [] = true := by rw [beqL_eq]; exact decide_eq_true hn
                rw [if_pos hn] at hR
                repeat (first
                  | refine sk_seq ?_
                  | refine sk_region ?_
                  | refine sk_ops_nil ?_
                  | refine sk_block ?_
                  | refine sk_blk ?_
                  | refine sk_skip ?_
                  | refine sk_exit rfl ?_
                  | ((first | (apply sk_r; rfl; rfl) | (apply sk_w; rfl; rfl) | (apply sk_i; rfl) | (apply sk_g; rfl; rfl)); (simp only [go_sem, Nat.reduceLT, Nat.reduceLeDiff, Nat.reduceEqDiff, Nat.reduceAdd, Nat.reduceSub, Nat.reduceMul, reduceIte, reduceCtorEq, aFold, aMin2, kM, h0, h4, f1, f2, f3, f4, f5, f6, f7, g1, g2, g3, g4, g5, g6, t5, hw, f9, bytes_nil, and_self, List.drop_zero, Int.toNat_zero, e0] <;> rfl); (first | refine sk_id ?_ | refine cs_t ?_ | refine cs_f ?_ | refine gs_t rfl ?_ | refine gs_f rfl ?_))
                  | ((first | (apply sk_c; rfl; rfl)); (simp only [go_sem, Nat.reduceLT, Nat.reduceLeDiff, Nat.reduceEqDiff, Nat.reduceAdd, Nat.reduceSub, Nat.reduceMul, reduceIte, reduceCtorEq, aFold, aMin2, kM, h0, h4, f1, f2, f3, f4, f5, f6, f7, g1, g2, g3, g4, g5, g6, t5, hw, f9, bytes_nil, and_self, List.drop_zero, Int.toNat_zero, e0] <;> rfl); (first
                      | (refine (s32 _).mono ?_; rintro _ τ2 ⟨rfl, hτ2⟩; rw [hτ2])
                      | (refine (s33 _).mono ?_; rintro _ τ2 ⟨rfl, hτ2⟩; rw [hτ2])
                      | (refine s34.mono ?_; rintro _ τ2 ⟨rfl, hτ2⟩; rw [hτ2])); refine sk_id ?_))
                exact sk_stop ⟨f, by omega, f, _, rfl, by omega, by omega, hR, rfl, (by first | (simp only [go_sem, Nat.reduceLT, Nat.reduceLeDiff, Nat.reduceEqDiff, Nat.reduceAdd, Nat.reduceSub, Nat.reduceMul, reduceIte, reduceCtorEq, h0] <;> rfl) | fail), (by first | (simp only [go_sem, Nat.reduceLT, Nat.reduceLeDiff, Nat.reduceEqDiff, Nat.reduceAdd, Nat.reduceSub, Nat.reduceMul, reduceIte, reduceCtorEq] <;> rfl) | fail)⟩
              · have g6 : beqL nm [] = false := by rw [beqL_eq]; exact decide_eq_false hn
                rw [if_neg hn] at hR
                repeat (first
                  | refine sk_seq ?_
                  | refine sk_region ?_
                  | refine sk_ops_nil ?_
                  | refine sk_block ?_
                  | refine sk_blk ?_
                  | refine sk_skip ?_
                  | refine sk_exit rfl ?_
                  | ((first | (apply sk_r; rfl; rfl) | (apply sk_w; rfl; rfl) | (apply sk_i; rfl) | (apply sk_g; rfl; rfl)); (simp only [go_sem, Nat.reduceLT, Nat.reduceLeDiff, Nat.reduceEqDiff, Nat.reduceAdd, Nat.reduceSub, Nat.reduceMul, reduceIte, reduceCtorEq, aFold, aMin2, kM, h0, h4, f1, f2, f3, f4, f5, f6, f7, g1, g2, g3, g4, g5, g6, t5, hw, f9, bytes_nil, and_self, List.drop_zero, Int.toNat_zero, e0] <;> rfl); (first | refine sk_id ?_ | refine cs_t ?_ | refine cs_f ?_ | refine gs_t rfl ?_ | refine gs_f rfl ?_))
                  | ((first | (apply sk_c; rfl; rfl)); (simp only [go_sem, Nat.reduceLT, Nat.reduceLeDiff, Nat.reduceEqDiff, Nat.reduceAdd, Nat.reduceSub, Nat.reduceMul, reduceIte, reduceCtorEq, aFold, aMin2, kM, h0, h4, f1, f2, f3, f4, f5, f6, f7, g1, g2, g3, g4, g5, g6, t5, hw, f9, bytes_nil, and_self, List.drop_zero, Int.toNat_zero, e0] <;> rfl); (first
                      | (refine (s32 _).mono ?_; rintro _ τ2 ⟨rfl, hτ2⟩; rw [hτ2])
                      | (refine (s33 _).mono ?_; rintro _ τ2 ⟨rfl, hτ2⟩; rw [hτ2])
                      | (refine s34.mono ?_; rintro _ τ2 ⟨rfl, hτ2⟩; rw [hτ2])); refine sk_id ?_))
                exact sk_cut_ret ⟨_, (by first | (simp only [aRet, Tryd.results16, aResults, aResult, go_sem, Nat.reduceLT, Nat.reduceLeDiff, Nat.reduceEqDiff, Nat.reduceAdd, Nat.reduceSub, Nat.reduceMul, reduceIte, reduceCtorEq] <;> rfl) | fail), by rw [← hR]; rfl, rfl⟩
      · have g1 : ((h.length : Int) == 6) = false := by simp; omega
        have hma : metaAt s p = false := by
          cases e : metaAt s p
          · rfl
          · have := metaAt_lt e; omega
        rw [if_neg (by simp [hma])] at hR
        repeat (first
          | refine sk_seq ?_
          | refine sk_region ?_
          | refine sk_ops_nil ?_
          | refine sk_block ?_
          | refine sk_blk ?_
          | refine sk_skip ?_
          | refine sk_exit rfl ?_
          | ((first | (apply sk_r; rfl; rfl) | (apply sk_w; rfl; rfl) | (apply sk_i; rfl) | (apply sk_g; rfl; rfl)); (simp only [go_sem, Nat.reduceLT, Nat.reduceLeDiff, Nat.reduceEqDiff, Nat.reduceAdd, Nat.reduceSub, Nat.reduceMul, reduceIte, reduceCtorEq, aFold, aMin2, h0, h4, f1, f2, f3, f4, f5, f6, g1, f8, and_self, List.drop_zero, Int.toNat_zero, e0] <;> rfl); (first | refine sk_id ?_ | refine cs_t ?_ | refine cs_f ?_ | refine gs_t rfl ?_ | refine gs_f rfl ?_))
          | ((first | (apply sk_c; rfl; rfl)); (simp only [go_sem, Nat.reduceLT, Nat.reduceLeDiff, Nat.reduceEqDiff, Nat.reduceAdd, Nat.reduceSub, Nat.reduceMul, reduceIte, reduceCtorEq, aFold, aMin2, h0, h4, f1, f2, f3, f4, f5, f6, g1, f8, and_self, List.drop_zero, Int.toNat_zero, e0] <;> rfl); (first
              | (refine (s32 _).mono ?_; rintro _ τ2 ⟨rfl, hτ2⟩; rw [hτ2])
              | (refine s35.mono ?_; rintro _ τ2 ⟨rfl, hτ2⟩; rw [hτ2])); refine sk_id ?_))
        exact sk_stop ⟨f, by omega, f, _, rfl, by omega, by omega, hR, rfl, (by first | (simp only [go_sem, Nat.reduceLT, Nat.reduceLeDiff, Nat.reduceEqDiff, Nat.reduceAdd, Nat.reduceSub, Nat.reduceMul, reduceIte, reduceCtorEq, h0] <;> rfl) | fail), (by first | (simp only [go_sem, Nat.reduceLT, Nat.reduceLeDiff, Nat.reduceEqDiff, Nat.reduceAdd, Nat.reduceSub, Nat.reduceMul, reduceIte, reduceCtorEq] <;> rfl) | fail)⟩
    · have f1 : decide ((p : Int) < (s.length : Int)) = false := decide_eq_false (by omega)
      rw [prescanGo_end (by omega)] at hR
      repeat (first
        | refine sk_seq ?_
        | refine sk_region ?_
        | refine sk_ops_nil ?_
        | refine sk_block ?_
        | refine sk_blk ?_
        | refine sk_skip ?_
        | refine sk_exit rfl ?_
        | ((first | (apply sk_r; rfl; rfl) | (apply sk_w; rfl; rfl) | (apply sk_i; rfl) | (apply sk_g; rfl; rfl)); (simp only [go_sem, Nat.reduceLT, Nat.reduceLeDiff, Nat.reduceEqDiff, Nat.reduceAdd, Nat.reduceSub, Nat.reduceMul, reduceIte, reduceCtorEq, h0, h4, f1] <;> rfl); (first | refine sk_id ?_ | refine cs_t ?_ | refine cs_f ?_ | refine gs_t rfl ?_ | refine gs_f rfl ?_)))
      exact sk_end ⟨rfl, hR.symm⟩
  rintro fr τ ⟨hτ, hR⟩
  rw [hτ, hR]
  repeat (first
    | refine sk_seq ?_
    | refine sk_region ?_
    | refine sk_ops_nil ?_
    | refine sk_block ?_
    | refine sk_blk ?_
    | refine sk_skip ?_
    | refine sk_exit rfl ?_
    | ((first | (apply sk_r; rfl; rfl) | (apply sk_w; rfl; rfl) | (apply sk_i; rfl) | (apply sk_g; rfl; rfl)); (simp only [go_sem, Nat.reduceLT, Nat.reduceLeDiff, Nat.reduceEqDiff, Nat.reduceAdd, Nat.reduceSub, Nat.reduceMul, reduceIte, reduceCtorEq] <;> rfl); (first | refine sk_id ?_ | refine cs_t ?_ | refine cs_f ?_ | refine gs_t rfl ?_ | refine gs_f rfl ?_)))
  exact sk_ret ⟨_, (by first | (simp only [aRet, Tryd.results16, aResults, aResult, go_sem, Nat.reduceLT, Nat.reduceLeDiff, Nat.reduceEqDiff, Nat.reduceAdd, Nat.reduceSub, Nat.reduceMul, reduceIte, reduceCtorEq] <;> rfl) | fail), rfl, rfl⟩
end Go.Proofs.YtophnlmdcidolaaDoor
