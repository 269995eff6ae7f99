import Derived.Test.YtophnlmdcidolaaDoorS2
set_option linter.all false
namespace Go.Am
/-- at rising places, all ahead of k -/
def Rise (l : List (Int × Nat)) (k : Nat) : Prop := l.Pairwise (fun a b => a.2 < b.2) ∧ ∀ a ∈ l, a.2 < k
theorem rise_nil (k : Nat) : Rise [] k := ⟨List.Pairwise.nil, fun _ h => by simp at h⟩
theorem rise_mono {l : List (Int × Nat)} {k k' : Nat} (h : Rise l k) (hk : k ≤ k') : Rise l k' := ⟨h.1, fun a ha => Nat.lt_of_lt_of_le (h.2 a ha) hk⟩
theorem rise_app {l : List (Int × Nat)} {k k' p : Nat} (h : Rise l k) (hk : k ≤ p) (hp : p < k') (v : Int) : Rise (l ++ [(v, p)]) k' := by
  refine ⟨List.pairwise_append.2 ⟨h.1, List.pairwise_singleton _ _, fun a ha b hb => ?_⟩, fun a ha => ?_⟩
  · rw [List.mem_singleton.1 hb]
    exact Nat.lt_of_lt_of_le (h.2 a ha) hk
  · rcases List.mem_append.1 ha with ha | ha
    · have := h.2 a ha; omega
    · rw [List.mem_singleton.1 ha]; exact hp
theorem rise_len : ∀ (n : Nat) {l : List (Int × Nat)} {k : Nat}, l.length = n → Rise l k → l.length ≤ k
  | 0, l, k, hn, _ => by omega
  | n + 1, l, k, hn, h => by
    have hne : l ≠ [] := by intro e; rw [e] at hn; simp at hn
    have e := List.dropLast_concat_getLast hne
    have h1 := h.1
    rw [← e] at h1
    rw [List.pairwise_append] at h1
    have hd : Rise l.dropLast (l.getLast hne).2 := ⟨h1.1, fun a ha => h1.2.2 a ha _ (by simp)⟩
    have hl : l.dropLast.length = n := by rw [List.length_dropLast, hn]; rfl
    have := rise_len n hl hd
    have h2 := h.2 _ (List.getLast_mem hne)
    omega
end Go.Am
namespace Go.Proofs.YtophnlmdcidolaaDoor
open Go Go.Am
set_option maxHeartbeats 8000000
set_option maxRecDepth 100000

theorem own_st {z : AV} {σ : AHeap} {D : Nat} {s : Dst} (h : Own z σ D s) (pl bg lf : Nat) (vl lo hi : Int) :
    Own z (σ.put D (.cells [.bool s.u, .int .i64 (pl : Nat), .int .i64 (bg : Nat), .int .i64 (lf : Nat), .int .i64 vl, .int .u8 lo, .int .u8 hi, slV s.ob s.out.length 2, slV s.bb s.bad.length 3] false 0 []) []) D { s with pl := pl, bg := bg, lf := lf, vl := vl, lo := lo, hi := hi } ∧
    Fr σ D s (σ.put D (.cells [.bool s.u, .int .i64 (pl : Nat), .int .i64 (bg : Nat), .int .i64 (lf : Nat), .int .i64 vl, .int .u8 lo, .int .u8 hi, slV s.ob s.out.length 2, slV s.bb s.bad.length 3] false 0 []) []) { s with pl := pl, bg := bg, lf := lf, vl := vl, lo := lo, hi := hi } :=
  own_set h rfl rfl rfl rfl rfl
/-- what a byte that begins a scalar does -/
def Began (s s' : Dst) (b : Nat) : Prop :=
  (b < 128 ∧ s'.lf = 0 ∧ s'.out = s.out ++ [((b : Int), s.pl)] ∧ s'.bad = s.bad) ∨
  (128 ≤ b ∧ s'.lf = 0 ∧ (∃ v, s'.out = s.out ++ [(v, s.pl)]) ∧ s'.bad.length = s.bad.length + 1) ∨
  (128 ≤ b ∧ 0 < s'.lf ∧ s'.lf ≤ 3 ∧ s'.bg = s.pl ∧ s'.out = s.out ∧ s'.bad = s.bad)

theorem f62_tr {σ : AHeap} {D : Nat} {s : Dst} (b : Nat) (hb : b < 256) (h : OwnD σ D s) (h0 : s.lf = 0) (hn : s.out.length ≤ 1000000) (hbn : s.bad.length ≤ 1000000) :
    Tr Tryd.prog 62 [.ptr D 0, .int .u8 (b : Nat)] σ fun r σ' => r = .tuple [] ∧ ∃ s', OwnD σ' D s' ∧ Fr σ D s σ' s' ∧ s'.u = s.u ∧ s'.pl = s.pl ∧ Began s s' b := by
  have hd := h.d
  unfold cellsOf at hd
  refine sk_body (m := 99) Tryd.func62 rfl (by decide) rfl ?_
  obtain ⟨w1, w2⟩ := own_set (c := [.bool s.u, .int .i64 (s.pl : Nat), .int .i64 (s.pl : Nat), .int .i64 (s.lf : Nat), .int .i64 s.vl, .int .u8 128, .int .u8 191, slV s.ob s.out.length 2, slV s.bb s.bad.length 3]) (s' := { s with bg := s.pl, lo := 128, hi := 191 }) h rfl rfl rfl rfl rfl
  have ew : IntKind.wrap .i64 (b : Int) = (b : Int) := wrap_i64 (by omega) (by omega)
  by_cases k : b < 128
  · have c0 : decide ((b : Int) < 128) = true := decide_eq_true (by omega)
    have q224 : ((b : Int) == 224) = false := by simp; omega
    have q237 : ((b : Int) == 237) = false := by simp; omega
    have q240 : ((b : Int) == 240) = false := by simp; omega
    have q244 : ((b : Int) == 244) = false := by simp; omega
    repeat (first
      | refine sk_seq ?_
      | refine sk_region ?_
      | refine sk_ops_nil ?_
      | refine sk_block ?_
      | refine sk_blk ?_
      | refine sk_skip ?_
      | refine sk_exit rfl ?_
      | ((first | (apply sk_r; rfl; rfl) | (apply sk_w; rfl; rfl) | (apply sk_i; rfl) | (apply sk_g; rfl; rfl)); (simp only [go_sem, Nat.reduceLT, Nat.reduceLeDiff, Nat.reduceEqDiff, Nat.reduceAdd, Nat.reduceSub, Nat.reduceMul, reduceIte, reduceCtorEq, hd, ew, c0, q224, q237, q240, q244] <;> rfl); (first | refine sk_id ?_ | refine cs_t ?_ | refine cs_f ?_ | refine gs_t rfl ?_ | refine gs_f rfl ?_))
      | ((first | (apply sk_c; rfl; rfl)); (simp only [go_sem, Nat.reduceLT, Nat.reduceLeDiff, Nat.reduceEqDiff, Nat.reduceAdd, Nat.reduceSub, Nat.reduceMul, reduceIte, reduceCtorEq, hd, ew, c0, q224, q237, q240, q244] <;> rfl); (first
          | (refine (f41_tr (b : Nat) s.pl w1 hn).mono ?_; rintro _ τ ⟨rfl, ob, t1, t2⟩)); refine sk_id ?_))
    exact sk_end ⟨_, (by first | (simp only [aRet, Tryd.results62, aResults, aResult, go_sem, Nat.reduceLT, Nat.reduceLeDiff, Nat.reduceEqDiff, Nat.reduceAdd, Nat.reduceSub, Nat.reduceMul, reduceIte, reduceCtorEq] <;> rfl) | fail), rfl, _, t1, w2.trans t2, rfl, rfl, .inl ⟨k, h0, rfl, rfl⟩⟩
  by_cases k : b < 194
  · have c0 : decide ((b : Int) < 128) = false := decide_eq_false (by omega)
    have c1a : decide ((b : Int) ≥ 194) = false := decide_eq_false (by omega)
    have c2a : decide ((b : Int) ≥ 224) = false := decide_eq_false (by omega)
    have c3a : decide ((b : Int) ≥ 240) = false := decide_eq_false (by omega)
    have q224 : ((b : Int) == 224) = false := by simp; omega
    have q237 : ((b : Int) == 237) = false := by simp; omega
    have q240 : ((b : Int) == 240) = false := by simp; omega
    have q244 : ((b : Int) == 244) = false := by simp; omega
    repeat (first
      | refine sk_seq ?_
      | refine sk_region ?_
      | refine sk_ops_nil ?_
      | refine sk_block ?_
      | refine sk_blk ?_
      | refine sk_skip ?_
      | refine sk_exit rfl ?_
      | ((first | (apply sk_r; rfl; rfl) | (apply sk_w; rfl; rfl) | (apply sk_i; rfl) | (apply sk_g; rfl; rfl)); (simp only [go_sem, Nat.reduceLT, Nat.reduceLeDiff, Nat.reduceEqDiff, Nat.reduceAdd, Nat.reduceSub, Nat.reduceMul, reduceIte, reduceCtorEq, hd, ew, c0, c1a, c2a, c3a, q224, q237, q240, q244] <;> rfl); (first | refine sk_id ?_ | refine cs_t ?_ | refine cs_f ?_ | refine gs_t rfl ?_ | refine gs_f rfl ?_))
      | ((first | (apply sk_c; rfl; rfl)); (simp only [go_sem, Nat.reduceLT, Nat.reduceLeDiff, Nat.reduceEqDiff, Nat.reduceAdd, Nat.reduceSub, Nat.reduceMul, reduceIte, reduceCtorEq, hd, ew, c0, c1a, c2a, c3a, q224, q237, q240, q244] <;> rfl); (first
          | (refine (f43_tr w1 hn hbn).mono ?_; rintro _ τ ⟨rfl, ob, bb, t1, t2⟩)); refine sk_id ?_))
    exact sk_end ⟨_, (by first | (simp only [aRet, Tryd.results62, aResults, aResult, go_sem, Nat.reduceLT, Nat.reduceLeDiff, Nat.reduceEqDiff, Nat.reduceAdd, Nat.reduceSub, Nat.reduceMul, reduceIte, reduceCtorEq] <;> rfl) | fail), rfl, _, t1, w2.trans t2, rfl, rfl, .inr (.inl ⟨by omega, rfl, ⟨_, rfl⟩, by simp⟩)⟩
  by_cases k : b ≤ 223
  · have c0 : decide ((b : Int) < 128) = false := decide_eq_false (by omega)
    have c1a : decide ((b : Int) ≥ 194) = true := decide_eq_true (by omega)
    have c1b : decide ((b : Int) ≤ 223) = true := decide_eq_true (by omega)
    have q224 : ((b : Int) == 224) = false := by simp; omega
    have q237 : ((b : Int) == 237) = false := by simp; omega
    have q240 : ((b : Int) == 240) = false := by simp; omega
    have q244 : ((b : Int) == 244) = false := by simp; omega
    repeat (first
      | refine sk_seq ?_
      | refine sk_region ?_
      | refine sk_ops_nil ?_
      | refine sk_block ?_
      | refine sk_blk ?_
      | refine sk_skip ?_
      | refine sk_exit rfl ?_
      | ((first | (apply sk_r; rfl; rfl) | (apply sk_w; rfl; rfl) | (apply sk_i; rfl) | (apply sk_g; rfl; rfl)); (simp only [go_sem, Nat.reduceLT, Nat.reduceLeDiff, Nat.reduceEqDiff, Nat.reduceAdd, Nat.reduceSub, Nat.reduceMul, reduceIte, reduceCtorEq, hd, ew, c0, c1a, c1b, q224, q237, q240, q244] <;> rfl); (first | refine sk_id ?_ | refine cs_t ?_ | refine cs_f ?_ | refine gs_t rfl ?_ | refine gs_f rfl ?_)))
    exact sk_end ⟨_, (by first | (simp only [aRet, Tryd.results62, aResults, aResult, go_sem, Nat.reduceLT, Nat.reduceLeDiff, Nat.reduceEqDiff, Nat.reduceAdd, Nat.reduceSub, Nat.reduceMul, reduceIte, reduceCtorEq] <;> rfl) | fail), rfl, _, (own_st h s.pl s.pl 1 _ 128 191).1, (own_st h s.pl s.pl 1 _ 128 191).2, rfl, rfl, .inr (.inr ⟨by omega, by show 0 < 1; omega, by show 1 ≤ 3; omega, rfl, rfl, rfl⟩)⟩
  by_cases k : b = 224
  · have c0 : decide ((b : Int) < 128) = false := decide_eq_false (by omega)
    have c1a : decide ((b : Int) ≥ 194) = true := decide_eq_true (by omega)
    have c1b : decide ((b : Int) ≤ 223) = false := decide_eq_false (by omega)
    have c2a : decide ((b : Int) ≥ 224) = true := decide_eq_true (by omega)
    have c2b : decide ((b : Int) ≤ 239) = true := decide_eq_true (by omega)
    have q224 : ((b : Int) == 224) = true := by simp; omega
    repeat (first
      | refine sk_seq ?_
      | refine sk_region ?_
      | refine sk_ops_nil ?_
      | refine sk_block ?_
      | refine sk_blk ?_
      | refine sk_skip ?_
      | refine sk_exit rfl ?_
      | ((first | (apply sk_r; rfl; rfl) | (apply sk_w; rfl; rfl) | (apply sk_i; rfl) | (apply sk_g; rfl; rfl)); (simp only [go_sem, Nat.reduceLT, Nat.reduceLeDiff, Nat.reduceEqDiff, Nat.reduceAdd, Nat.reduceSub, Nat.reduceMul, reduceIte, reduceCtorEq, hd, ew, c0, c1a, c1b, c2a, c2b, q224] <;> rfl); (first | refine sk_id ?_ | refine cs_t ?_ | refine cs_f ?_ | refine gs_t rfl ?_ | refine gs_f rfl ?_)))
    exact sk_end ⟨_, (by first | (simp only [aRet, Tryd.results62, aResults, aResult, go_sem, Nat.reduceLT, Nat.reduceLeDiff, Nat.reduceEqDiff, Nat.reduceAdd, Nat.reduceSub, Nat.reduceMul, reduceIte, reduceCtorEq] <;> rfl) | fail), rfl, _, (own_st h s.pl s.pl 2 _ 160 191).1, (own_st h s.pl s.pl 2 _ 160 191).2, rfl, rfl, .inr (.inr ⟨by omega, by show 0 < 2; omega, by show 2 ≤ 3; omega, rfl, rfl, rfl⟩)⟩
  by_cases k : b = 237
  · have c0 : decide ((b : Int) < 128) = false := decide_eq_false (by omega)
    have c1a : decide ((b : Int) ≥ 194) = true := decide_eq_true (by omega)
    have c1b : decide ((b : Int) ≤ 223) = false := decide_eq_false (by omega)
    have c2a : decide ((b : Int) ≥ 224) = true := decide_eq_true (by omega)
    have c2b : decide ((b : Int) ≤ 239) = true := decide_eq_true (by omega)
    have q224 : ((b : Int) == 224) = false := by simp; omega
    have q237 : ((b : Int) == 237) = true := by simp; omega
    repeat (first
      | refine sk_seq ?_
      | refine sk_region ?_
      | refine sk_ops_nil ?_
      | refine sk_block ?_
      | refine sk_blk ?_
      | refine sk_skip ?_
      | refine sk_exit rfl ?_
      | ((first | (apply sk_r; rfl; rfl) | (apply sk_w; rfl; rfl) | (apply sk_i; rfl) | (apply sk_g; rfl; rfl)); (simp only [go_sem, Nat.reduceLT, Nat.reduceLeDiff, Nat.reduceEqDiff, Nat.reduceAdd, Nat.reduceSub, Nat.reduceMul, reduceIte, reduceCtorEq, hd, ew, c0, c1a, c1b, c2a, c2b, q224, q237] <;> rfl); (first | refine sk_id ?_ | refine cs_t ?_ | refine cs_f ?_ | refine gs_t rfl ?_ | refine gs_f rfl ?_)))
    exact sk_end ⟨_, (by first | (simp only [aRet, Tryd.results62, aResults, aResult, go_sem, Nat.reduceLT, Nat.reduceLeDiff, Nat.reduceEqDiff, Nat.reduceAdd, Nat.reduceSub, Nat.reduceMul, reduceIte, reduceCtorEq] <;> rfl) | fail), rfl, _, (own_st h s.pl s.pl 2 _ 128 159).1, (own_st h s.pl s.pl 2 _ 128 159).2, rfl, rfl, .inr (.inr ⟨by omega, by show 0 < 2; omega, by show 2 ≤ 3; omega, rfl, rfl, rfl⟩)⟩
  by_cases k : b ≤ 239
  · have c0 : decide ((b : Int) < 128) = false := decide_eq_false (by omega)
    have c1a : decide ((b : Int) ≥ 194) = true := decide_eq_true (by omega)
    have c1b : decide ((b : Int) ≤ 223) = false := decide_eq_false (by omega)
    have c2a : decide ((b : Int) ≥ 224) = true := decide_eq_true (by omega)
    have c2b : decide ((b : Int) ≤ 239) = true := decide_eq_true (by omega)
    have q224 : ((b : Int) == 224) = false := by simp; omega
    have q237 : ((b : Int) == 237) = false := by simp; omega
    have q240 : ((b : Int) == 240) = false := by simp; omega
    have q244 : ((b : Int) == 244) = false := by simp; omega
    repeat (first
      | refine sk_seq ?_
      | refine sk_region ?_
      | refine sk_ops_nil ?_
      | refine sk_block ?_
      | refine sk_blk ?_
      | refine sk_skip ?_
      | refine sk_exit rfl ?_
      | ((first | (apply sk_r; rfl; rfl) | (apply sk_w; rfl; rfl) | (apply sk_i; rfl) | (apply sk_g; rfl; rfl)); (simp only [go_sem, Nat.reduceLT, Nat.reduceLeDiff, Nat.reduceEqDiff, Nat.reduceAdd, Nat.reduceSub, Nat.reduceMul, reduceIte, reduceCtorEq, hd, ew, c0, c1a, c1b, c2a, c2b, q224, q237, q240, q244] <;> rfl); (first | refine sk_id ?_ | refine cs_t ?_ | refine cs_f ?_ | refine gs_t rfl ?_ | refine gs_f rfl ?_)))
    exact sk_end ⟨_, (by first | (simp only [aRet, Tryd.results62, aResults, aResult, go_sem, Nat.reduceLT, Nat.reduceLeDiff, Nat.reduceEqDiff, Nat.reduceAdd, Nat.reduceSub, Nat.reduceMul, reduceIte, reduceCtorEq] <;> rfl) | fail), rfl, _, (own_st h s.pl s.pl 2 _ 128 191).1, (own_st h s.pl s.pl 2 _ 128 191).2, rfl, rfl, .inr (.inr ⟨by omega, by show 0 < 2; omega, by show 2 ≤ 3; omega, rfl, rfl, rfl⟩)⟩
  by_cases k : b = 240
  · have c0 : decide ((b : Int) < 128) = false := decide_eq_false (by omega)
    have c1a : decide ((b : Int) ≥ 194) = true := decide_eq_true (by omega)
    have c1b : decide ((b : Int) ≤ 223) = false := decide_eq_false (by omega)
    have c2a : decide ((b : Int) ≥ 224) = true := decide_eq_true (by omega)
    have c2b : decide ((b : Int) ≤ 239) = false := decide_eq_false (by omega)
    have c3a : decide ((b : Int) ≥ 240) = true := decide_eq_true (by omega)
    have c3b : decide ((b : Int) ≤ 244) = true := decide_eq_true (by omega)
    have q224 : ((b : Int) == 224) = false := by simp; omega
    have q237 : ((b : Int) == 237) = false := by simp; omega
    have q240 : ((b : Int) == 240) = true := by simp; omega
    repeat (first
      | refine sk_seq ?_
      | refine sk_region ?_
      | refine sk_ops_nil ?_
      | refine sk_block ?_
      | refine sk_blk ?_
      | refine sk_skip ?_
      | refine sk_exit rfl ?_
      | ((first | (apply sk_r; rfl; rfl) | (apply sk_w; rfl; rfl) | (apply sk_i; rfl) | (apply sk_g; rfl; rfl)); (simp only [go_sem, Nat.reduceLT, Nat.reduceLeDiff, Nat.reduceEqDiff, Nat.reduceAdd, Nat.reduceSub, Nat.reduceMul, reduceIte, reduceCtorEq, hd, ew, c0, c1a, c1b, c2a, c2b, c3a, c3b, q224, q237, q240] <;> rfl); (first | refine sk_id ?_ | refine cs_t ?_ | refine cs_f ?_ | refine gs_t rfl ?_ | refine gs_f rfl ?_)))
    exact sk_end ⟨_, (by first | (simp only [aRet, Tryd.results62, aResults, aResult, go_sem, Nat.reduceLT, Nat.reduceLeDiff, Nat.reduceEqDiff, Nat.reduceAdd, Nat.reduceSub, Nat.reduceMul, reduceIte, reduceCtorEq] <;> rfl) | fail), rfl, _, (own_st h s.pl s.pl 3 _ 144 191).1, (own_st h s.pl s.pl 3 _ 144 191).2, rfl, rfl, .inr (.inr ⟨by omega, by show 0 < 3; omega, by show 3 ≤ 3; omega, rfl, rfl, rfl⟩)⟩
  by_cases k : b = 244
  · have c0 : decide ((b : Int) < 128) = false := decide_eq_false (by omega)
    have c1a : decide ((b : Int) ≥ 194) = true := decide_eq_true (by omega)
    have c1b : decide ((b : Int) ≤ 223) = false := decide_eq_false (by omega)
    have c2a : decide ((b : Int) ≥ 224) = true := decide_eq_true (by omega)
    have c2b : decide ((b : Int) ≤ 239) = false := decide_eq_false (by omega)
    have c3a : decide ((b : Int) ≥ 240) = true := decide_eq_true (by omega)
    have c3b : decide ((b : Int) ≤ 244) = true := decide_eq_true (by omega)
    have q224 : ((b : Int) == 224) = false := by simp; omega
    have q237 : ((b : Int) == 237) = false := by simp; omega
    have q240 : ((b : Int) == 240) = false := by simp; omega
    have q244 : ((b : Int) == 244) = true := by simp; omega
    repeat (first
      | refine sk_seq ?_
      | refine sk_region ?_
      | refine sk_ops_nil ?_
      | refine sk_block ?_
      | refine sk_blk ?_
      | refine sk_skip ?_
      | refine sk_exit rfl ?_
      | ((first | (apply sk_r; rfl; rfl) | (apply sk_w; rfl; rfl) | (apply sk_i; rfl) | (apply sk_g; rfl; rfl)); (simp only [go_sem, Nat.reduceLT, Nat.reduceLeDiff, Nat.reduceEqDiff, Nat.reduceAdd, Nat.reduceSub, Nat.reduceMul, reduceIte, reduceCtorEq, hd, ew, c0, c1a, c1b, c2a, c2b, c3a, c3b, q224, q237, q240, q244] <;> rfl); (first | refine sk_id ?_ | refine cs_t ?_ | refine cs_f ?_ | refine gs_t rfl ?_ | refine gs_f rfl ?_)))
    exact sk_end ⟨_, (by first | (simp only [aRet, Tryd.results62, aResults, aResult, go_sem, Nat.reduceLT, Nat.reduceLeDiff, Nat.reduceEqDiff, Nat.reduceAdd, Nat.reduceSub, Nat.reduceMul, reduceIte, reduceCtorEq] <;> rfl) | fail), rfl, _, (own_st h s.pl s.pl 3 _ 128 143).1, (own_st h s.pl s.pl 3 _ 128 143).2, rfl, rfl, .inr (.inr ⟨by omega, by show 0 < 3; omega, by show 3 ≤ 3; omega, rfl, rfl, rfl⟩)⟩
  by_cases k : b ≤ 244
  · have c0 : decide ((b : Int) < 128) = false := decide_eq_false (by omega)
    have c1a : decide ((b : Int) ≥ 194) = true := decide_eq_true (by omega)
    have c1b : decide ((b : Int) ≤ 223) = false := decide_eq_false (by omega)
    have c2a : decide ((b : Int) ≥ 224) = true := decide_eq_true (by omega)
    have c2b : decide ((b : Int) ≤ 239) = false := decide_eq_false (by omega)
    have c3a : decide ((b : Int) ≥ 240) = true := decide_eq_true (by omega)
    have c3b : decide ((b : Int) ≤ 244) = true := decide_eq_true (by omega)
    have q224 : ((b : Int) == 224) = false := by simp; omega
    have q237 : ((b : Int) == 237) = false := by simp; omega
    have q240 : ((b : Int) == 240) = false := by simp; omega
    have q244 : ((b : Int) == 244) = false := by simp; omega
    repeat (first
      | refine sk_seq ?_
      | refine sk_region ?_
      | refine sk_ops_nil ?_
      | refine sk_block ?_
      | refine sk_blk ?_
      | refine sk_skip ?_
      | refine sk_exit rfl ?_
      | ((first | (apply sk_r; rfl; rfl) | (apply sk_w; rfl; rfl) | (apply sk_i; rfl) | (apply sk_g; rfl; rfl)); (simp only [go_sem, Nat.reduceLT, Nat.reduceLeDiff, Nat.reduceEqDiff, Nat.reduceAdd, Nat.reduceSub, Nat.reduceMul, reduceIte, reduceCtorEq, hd, ew, c0, c1a, c1b, c2a, c2b, c3a, c3b, q224, q237, q240, q244] <;> rfl); (first | refine sk_id ?_ | refine cs_t ?_ | refine cs_f ?_ | refine gs_t rfl ?_ | refine gs_f rfl ?_)))
    exact sk_end ⟨_, (by first | (simp only [aRet, Tryd.results62, aResults, aResult, go_sem, Nat.reduceLT, Nat.reduceLeDiff, Nat.reduceEqDiff, Nat.reduceAdd, Nat.reduceSub, Nat.reduceMul, reduceIte, reduceCtorEq] <;> rfl) | fail), rfl, _, (own_st h s.pl s.pl 3 _ 128 191).1, (own_st h s.pl s.pl 3 _ 128 191).2, rfl, rfl, .inr (.inr ⟨by omega, by show 0 < 3; omega, by show 3 ≤ 3; omega, rfl, rfl, rfl⟩)⟩
  have c0 : decide ((b : Int) < 128) = false := decide_eq_false (by omega)
  have c1a : decide ((b : Int) ≥ 194) = true := decide_eq_true (by omega)
  have c1b : decide ((b : Int) ≤ 223) = false := decide_eq_false (by omega)
  have c2a : decide ((b : Int) ≥ 224) = true := decide_eq_true (by omega)
  have c2b : decide ((b : Int) ≤ 239) = false := decide_eq_false (by omega)
  have c3a : decide ((b : Int) ≥ 240) = true := decide_eq_true (by omega)
  have c3b : decide ((b : Int) ≤ 244) = false := decide_eq_false (by omega)
  have q224 : ((b : Int) == 224) = false := by simp; omega
  have q237 : ((b : Int) == 237) = false := by simp; omega
  have q240 : ((b : Int) == 240) = false := by simp; omega
  have q244 : ((b : Int) == 244) = false := by simp; omega
  repeat (first
    | refine sk_seq ?_
    | refine sk_region ?_
    | refine sk_ops_nil ?_
    | refine sk_block ?_
    | refine sk_blk ?_
    | refine sk_skip ?_
    | refine sk_exit rfl ?_
    | ((first | (apply sk_r; rfl; rfl) | (apply sk_w; rfl; rfl) | (apply sk_i; rfl) | (apply sk_g; rfl; rfl)); (simp only [go_sem, Nat.reduceLT, Nat.reduceLeDiff, Nat.reduceEqDiff, Nat.reduceAdd, Nat.reduceSub, Nat.reduceMul, reduceIte, reduceCtorEq, hd, ew, c0, c1a, c1b, c2a, c2b, c3a, c3b, q224, q237, q240, q244] <;> rfl); (first | refine sk_id ?_ | refine cs_t ?_ | refine cs_f ?_ | refine gs_t rfl ?_ | refine gs_f rfl ?_))
    | ((first | (apply sk_c; rfl; rfl)); (simp only [go_sem, Nat.reduceLT, Nat.reduceLeDiff, Nat.reduceEqDiff, Nat.reduceAdd, Nat.reduceSub, Nat.reduceMul, reduceIte, reduceCtorEq, hd, ew, c0, c1a, c1b, c2a, c2b, c3a, c3b, q224, q237, q240, q244] <;> rfl); (first
        | (refine (f43_tr w1 hn hbn).mono ?_; rintro _ τ ⟨rfl, ob, bb, t1, t2⟩)); refine sk_id ?_))
  exact sk_end ⟨_, (by first | (simp only [aRet, Tryd.results62, aResults, aResult, go_sem, Nat.reduceLT, Nat.reduceLeDiff, Nat.reduceEqDiff, Nat.reduceAdd, Nat.reduceSub, Nat.reduceMul, reduceIte, reduceCtorEq] <;> rfl) | fail), rfl, _, t1, w2.trans t2, rfl, rfl, .inr (.inl ⟨by omega, rfl, ⟨_, rfl⟩, by simp⟩)⟩
end Go.Proofs.YtophnlmdcidolaaDoor
