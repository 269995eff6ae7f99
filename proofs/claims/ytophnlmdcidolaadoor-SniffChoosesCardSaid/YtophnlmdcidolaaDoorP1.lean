import Derived.Test.YtophnlmdcidolaaDoorL
import Derived.Test.YtophnlmdcidolaaDoorX
import Derived.Test.YtophnlmdcidolaaDoorG
set_option linter.all false
namespace Go.Proofs.YtophnlmdcidolaaDoor
open Go Go.Am
set_option maxHeartbeats 8000000
set_option maxRecDepth 100000

theorem sliteIndex_calls (s sub : ByteArray) (m : Int) (w : World) (hs : s.size < 4294967281) (hm : w.cell? ⟨0, 0, none⟩ = some (.int .i64 m)) :
    Calls Tryd.prog 75 #[.string s, .string sub] w fun e w' => e = .returned (.int .i64 (Lib.index s.data.toList sub.data.toList)) ∧ w' = w :=
  Any.stringslite_Index (ρ := rho) { lays143 with } s sub m w hs hm
theorem f75_tr {σ : AHeap} {l t : List Nat} {m : Int} {ro : Bool} {fz : Nat} {ps : List Nat} (hm : σ.m.get 0 = some (.cells [.int .i64 m] ro fz ps)) (hl : l.length < 4294967281) :
    Tr Tryd.prog 75 [.str l, .str t] σ fun v σ' => v = .int .i64 (indexN l t) ∧ σ' = σ := by
  refine Tr.of_calls Tryd.func75 rfl (by decide) fun θ w cargs hS hr => ?_
  match cargs, hr with
  | [a, b], hr =>
    simp only [VRels] at hr
    obtain ⟨h1, h2, _⟩ := hr
    rw [vrel_str] at h1; obtain ⟨s, rfl, rfl⟩ := h1
    rw [vrel_str] at h2; obtain ⟨u, rfl, rfl⟩ := h2
    obtain ⟨c, hc, hv⟩ := cell_of hS (by decide) hm
    rw [vrel_int] at hv
    subst hv
    rw [bytesOf_length] at hl
    refine (sliteIndex_calls s u m w hl hc).mono fun e w' ⟨h1, h2⟩ => ⟨_, _, h1, h2, by rw [vrel_int], ?_, rfl⟩
    rw [indexN_eq]
    rfl
  | [], hr => simp [VRels] at hr
  | [_], hr => simp [VRels] at hr
  | _ :: _ :: _ :: _, hr => simp [VRels] at hr

theorem f71_tr (l : List Nat) (hd : ∀ c ∈ l, c < 256) (hn : l.length ≤ 1000000) (σ : AHeap) :
    Tr Tryd.prog 71 [.str l, .str [9, 10, 12, 13, 32]] σ fun v σ' => v = .str (l.dropWhile (isIn B5)) ∧ σ' = σ := by
  refine Tr.wf fun hW => Tr.pure ?_
  refine sk_body (m := 37) Tryd.func71 rfl (by decide) rfl ?_
  by_cases hl : l = []
  · subst hl
    repeat (first
      | refine sk_seq ?_
      | refine sk_region ?_
      | refine sk_ops_nil ?_
      | refine sk_block ?_
      | refine sk_blk ?_
      | refine sk_skip ?_
      | refine sk_exit rfl ?_
      | ((first | (apply sk_r; rfl; rfl) | (apply sk_w; rfl; rfl) | (apply sk_i; rfl) | (apply sk_g; rfl; rfl)); (simp only [go_sem, Nat.reduceLT, Nat.reduceLeDiff, Nat.reduceEqDiff, Nat.reduceAdd, Nat.reduceSub, Nat.reduceMul, reduceIte, reduceCtorEq] <;> rfl); (first | refine sk_id ?_ | refine cs_t ?_ | refine cs_f ?_ | refine gs_t rfl ?_ | refine gs_f rfl ?_)))
    exact sk_ret ⟨_, (by first | (simp only [aRet, Tryd.results71, aResults, aResult, go_sem, Nat.reduceLT, Nat.reduceLeDiff, Nat.reduceEqDiff, Nat.reduceAdd, Nat.reduceSub, Nat.reduceMul, reduceIte, reduceCtorEq] <;> rfl) | fail), rfl, fun b x h => h, rfl, rfl⟩
  · have e1 : beqL l [] = false := by rw [beqL_eq]; exact decide_eq_false hl
    have hk : ∀ x b y, σ.m.get b = some y → (σ.push x).m.get b = some y := fun x b y h => by rw [get_push, if_neg (by have := wf_lt hW h; omega)]; exact h
    repeat (first
      | refine sk_seq ?_
      | refine sk_region ?_
      | refine sk_ops_nil ?_
      | refine sk_block ?_
      | refine sk_blk ?_
      | refine sk_skip ?_
      | refine sk_exit rfl ?_
      | ((first | (apply sk_r; rfl; rfl) | (apply sk_w; rfl; rfl) | (apply sk_i; rfl) | (apply sk_g; rfl; rfl)); (simp only [go_sem, Nat.reduceLT, Nat.reduceLeDiff, Nat.reduceEqDiff, Nat.reduceAdd, Nat.reduceSub, Nat.reduceMul, reduceIte, reduceCtorEq, bytes_nil, e1, zo93, setAV_nil, setAV_len, setAV_one, setAV_lay] <;> rfl); (first | refine sk_id ?_ | refine cs_t ?_ | refine cs_f ?_ | refine gs_t rfl ?_ | refine gs_f rfl ?_))
      | ((first | (apply sk_c; rfl; rfl)); (simp only [go_sem, Nat.reduceLT, Nat.reduceLeDiff, Nat.reduceEqDiff, Nat.reduceAdd, Nat.reduceSub, Nat.reduceMul, reduceIte, reduceCtorEq, bytes_nil, e1, zo93, setAV_nil, setAV_len, setAV_one, setAV_lay] <;> rfl); (first
          | (refine (f57_tr [9, 10, 12, 13, 32] (by decide) (by decide) _).mono ?_; rintro _ τ2 ⟨rfl, hτ2⟩; rw [hτ2])
          | (refine (f58_tr l [9, 10, 12, 13, 32] σ.next hd (by omega) _ false 0 [] (get_push_same _ _)).mono ?_; rintro _ τ2 ⟨rfl, hτ2⟩; rw [hτ2])); refine sk_id ?_))
    exact sk_ret ⟨_, (by first | (simp only [aRet, Tryd.results71, aResults, aResult, go_sem, Nat.reduceLT, Nat.reduceLeDiff, Nat.reduceEqDiff, Nat.reduceAdd, Nat.reduceSub, Nat.reduceMul, reduceIte, reduceCtorEq] <;> rfl) | fail), rfl, fun b x h => hk _ b x h, rfl, rfl⟩

theorem pre_len {p s : List Nat} (h : pre p s = true) : p.length ≤ s.length := by
  unfold pre at h
  have := congrArg List.length (of_decide_eq_true h)
  rw [List.length_take] at this
  omega

theorem f84_tr (s p : List Nat) (σ : AHeap) : Tr Tryd.prog 84 [.str s, .str p] σ fun v σ' => v = (if pre p s then .tuple [.str (s.drop p.length), .bool true] else .tuple [.str s, .bool false]) ∧ σ' = σ := by
  refine sk_body (m := 15) Tryd.func84 rfl (by decide) rfl ?_
  cases hp : pre p s
  · repeat (first
      | refine sk_seq ?_
      | refine sk_region ?_
      | refine sk_ops_nil ?_
      | refine sk_block ?_
      | refine sk_blk ?_
      | refine sk_skip ?_
      | refine sk_exit rfl ?_
      | ((first | (apply sk_r; rfl; rfl) | (apply sk_w; rfl; rfl) | (apply sk_i; rfl) | (apply sk_g; rfl; rfl)); (simp only [go_sem, Nat.reduceLT, Nat.reduceLeDiff, Nat.reduceEqDiff, Nat.reduceAdd, Nat.reduceSub, Nat.reduceMul, reduceIte, reduceCtorEq] <;> rfl); (first | refine sk_id ?_ | refine cs_t ?_ | refine cs_f ?_ | refine gs_t rfl ?_ | refine gs_f rfl ?_))
      | ((first | (apply sk_c; rfl; rfl)); (simp only [go_sem, Nat.reduceLT, Nat.reduceLeDiff, Nat.reduceEqDiff, Nat.reduceAdd, Nat.reduceSub, Nat.reduceMul, reduceIte, reduceCtorEq] <;> rfl); (first
          | (refine (f36_tr s p _).mono ?_; rintro _ τ2 ⟨rfl, hτ2⟩; rw [hτ2, hp])); refine sk_id ?_))
    exact sk_ret ⟨_, (by first | (simp only [aRet, Tryd.results84, aResults, aResult, go_sem, Nat.reduceLT, Nat.reduceLeDiff, Nat.reduceEqDiff, Nat.reduceAdd, Nat.reduceSub, Nat.reduceMul, reduceIte, reduceCtorEq] <;> rfl) | fail), rfl, rfl⟩
  · have e2 : (0 : Int) ≤ (p.length : Int) := by omega
    have e3 : (p.length : Int) ≤ (s.length : Int) := by have := pre_len hp; omega
    repeat (first
      | refine sk_seq ?_
      | refine sk_region ?_
      | refine sk_ops_nil ?_
      | refine sk_block ?_
      | refine sk_blk ?_
      | refine sk_skip ?_
      | refine sk_exit rfl ?_
      | ((first | (apply sk_r; rfl; rfl) | (apply sk_w; rfl; rfl) | (apply sk_i; rfl) | (apply sk_g; rfl; rfl)); (simp only [go_sem, Nat.reduceLT, Nat.reduceLeDiff, Nat.reduceEqDiff, Nat.reduceAdd, Nat.reduceSub, Nat.reduceMul, reduceIte, reduceCtorEq, e2, e3, and_self, List.take_length, Int.le_refl] <;> rfl); (first | refine sk_id ?_ | refine cs_t ?_ | refine cs_f ?_ | refine gs_t rfl ?_ | refine gs_f rfl ?_))
      | ((first | (apply sk_c; rfl; rfl)); (simp only [go_sem, Nat.reduceLT, Nat.reduceLeDiff, Nat.reduceEqDiff, Nat.reduceAdd, Nat.reduceSub, Nat.reduceMul, reduceIte, reduceCtorEq, e2, e3, and_self, List.take_length, Int.le_refl] <;> rfl); (first
          | (refine (f36_tr s p _).mono ?_; rintro _ τ2 ⟨rfl, hτ2⟩; rw [hτ2, hp])); refine sk_id ?_))
    exact sk_ret ⟨_, (by first | (simp only [aRet, Tryd.results84, aResults, aResult, go_sem, Nat.reduceLT, Nat.reduceLeDiff, Nat.reduceEqDiff, Nat.reduceAdd, Nat.reduceSub, Nat.reduceMul, reduceIte, reduceCtorEq] <;> rfl) | fail), rfl, rfl⟩
theorem f72_tr (s p : List Nat) (σ : AHeap) : Tr Tryd.prog 72 [.str s, .str p] σ fun v σ' => v = (if pre p s then .tuple [.str (s.drop p.length), .bool true] else .tuple [.str s, .bool false]) ∧ σ' = σ := by
  refine sk_body (m := 11) Tryd.func72 rfl (by decide) rfl ?_
  have s84 := fun σ => f84_tr s p σ
  cases hp : pre p s
  · rw [hp] at s84
    repeat (first
      | refine sk_seq ?_
      | refine sk_region ?_
      | refine sk_ops_nil ?_
      | refine sk_block ?_
      | refine sk_blk ?_
      | refine sk_skip ?_
      | refine sk_exit rfl ?_
      | ((first | (apply sk_r; rfl; rfl) | (apply sk_w; rfl; rfl) | (apply sk_i; rfl) | (apply sk_g; rfl; rfl)); (simp only [go_sem, Nat.reduceLT, Nat.reduceLeDiff, Nat.reduceEqDiff, Nat.reduceAdd, Nat.reduceSub, Nat.reduceMul, reduceIte, reduceCtorEq] <;> rfl); (first | refine sk_id ?_ | refine cs_t ?_ | refine cs_f ?_ | refine gs_t rfl ?_ | refine gs_f rfl ?_))
      | ((first | (apply sk_c; rfl; rfl)); (simp only [go_sem, Nat.reduceLT, Nat.reduceLeDiff, Nat.reduceEqDiff, Nat.reduceAdd, Nat.reduceSub, Nat.reduceMul, reduceIte, reduceCtorEq] <;> rfl); (first
          | (refine (s84 _).mono ?_; rintro _ τ2 ⟨rfl, hτ2⟩; rw [hτ2])); refine sk_id ?_))
    exact sk_ret ⟨_, (by first | (simp only [aRet, Tryd.results72, aResults, aResult, go_sem, Nat.reduceLT, Nat.reduceLeDiff, Nat.reduceEqDiff, Nat.reduceAdd, Nat.reduceSub, Nat.reduceMul, reduceIte, reduceCtorEq] <;> rfl) | fail), rfl, rfl⟩
  · rw [hp] at s84
    repeat (first
      | refine sk_seq ?_
      | refine sk_region ?_
      | refine sk_ops_nil ?_
      | refine sk_block ?_
      | refine sk_blk ?_
      | refine sk_skip ?_
      | refine sk_exit rfl ?_
      | ((first | (apply sk_r; rfl; rfl) | (apply sk_w; rfl; rfl) | (apply sk_i; rfl) | (apply sk_g; rfl; rfl)); (simp only [go_sem, Nat.reduceLT, Nat.reduceLeDiff, Nat.reduceEqDiff, Nat.reduceAdd, Nat.reduceSub, Nat.reduceMul, reduceIte, reduceCtorEq] <;> rfl); (first | refine sk_id ?_ | refine cs_t ?_ | refine cs_f ?_ | refine gs_t rfl ?_ | refine gs_f rfl ?_))
      | ((first | (apply sk_c; rfl; rfl)); (simp only [go_sem, Nat.reduceLT, Nat.reduceLeDiff, Nat.reduceEqDiff, Nat.reduceAdd, Nat.reduceSub, Nat.reduceMul, reduceIte, reduceCtorEq] <;> rfl); (first
          | (refine (s84 _).mono ?_; rintro _ τ2 ⟨rfl, hτ2⟩; rw [hτ2])); refine sk_id ?_))
    exact sk_ret ⟨_, (by first | (simp only [aRet, Tryd.results72, aResults, aResult, go_sem, Nat.reduceLT, Nat.reduceLeDiff, Nat.reduceEqDiff, Nat.reduceAdd, Nat.reduceSub, Nat.reduceMul, reduceIte, reduceCtorEq] <;> rfl) | fail), rfl, rfl⟩
theorem f76_tr (s p : List Nat) (σ : AHeap) : Tr Tryd.prog 76 [.str s, .str p] σ fun v σ' => v = .str (if pre p s then s.drop p.length else s) ∧ σ' = σ := by
  refine sk_body (m := 13) Tryd.func76 rfl (by decide) rfl ?_
  cases hp : pre p s
  · repeat (first
      | refine sk_seq ?_
      | refine sk_region ?_
      | refine sk_ops_nil ?_
      | refine sk_block ?_
      | refine sk_blk ?_
      | refine sk_skip ?_
      | refine sk_exit rfl ?_
      | ((first | (apply sk_r; rfl; rfl) | (apply sk_w; rfl; rfl) | (apply sk_i; rfl) | (apply sk_g; rfl; rfl)); (simp only [go_sem, Nat.reduceLT, Nat.reduceLeDiff, Nat.reduceEqDiff, Nat.reduceAdd, Nat.reduceSub, Nat.reduceMul, reduceIte, reduceCtorEq] <;> rfl); (first | refine sk_id ?_ | refine cs_t ?_ | refine cs_f ?_ | refine gs_t rfl ?_ | refine gs_f rfl ?_))
      | ((first | (apply sk_c; rfl; rfl)); (simp only [go_sem, Nat.reduceLT, Nat.reduceLeDiff, Nat.reduceEqDiff, Nat.reduceAdd, Nat.reduceSub, Nat.reduceMul, reduceIte, reduceCtorEq] <;> rfl); (first
          | (refine (f36_tr s p _).mono ?_; rintro _ τ2 ⟨rfl, hτ2⟩; rw [hτ2, hp])); refine sk_id ?_))
    exact sk_ret ⟨_, (by first | (simp only [aRet, Tryd.results76, aResults, aResult, go_sem, Nat.reduceLT, Nat.reduceLeDiff, Nat.reduceEqDiff, Nat.reduceAdd, Nat.reduceSub, Nat.reduceMul, reduceIte, reduceCtorEq] <;> rfl) | fail), rfl, rfl⟩
  · have e2 : (0 : Int) ≤ (p.length : Int) := by omega
    have e3 : (p.length : Int) ≤ (s.length : Int) := by have := pre_len hp; omega
    repeat (first
      | refine sk_seq ?_
      | refine sk_region ?_
      | refine sk_ops_nil ?_
      | refine sk_block ?_
      | refine sk_blk ?_
      | refine sk_skip ?_
      | refine sk_exit rfl ?_
      | ((first | (apply sk_r; rfl; rfl) | (apply sk_w; rfl; rfl) | (apply sk_i; rfl) | (apply sk_g; rfl; rfl)); (simp only [go_sem, Nat.reduceLT, Nat.reduceLeDiff, Nat.reduceEqDiff, Nat.reduceAdd, Nat.reduceSub, Nat.reduceMul, reduceIte, reduceCtorEq, e2, e3, and_self, List.take_length, Int.le_refl] <;> rfl); (first | refine sk_id ?_ | refine cs_t ?_ | refine cs_f ?_ | refine gs_t rfl ?_ | refine gs_f rfl ?_))
      | ((first | (apply sk_c; rfl; rfl)); (simp only [go_sem, Nat.reduceLT, Nat.reduceLeDiff, Nat.reduceEqDiff, Nat.reduceAdd, Nat.reduceSub, Nat.reduceMul, reduceIte, reduceCtorEq, e2, e3, and_self, List.take_length, Int.le_refl] <;> rfl); (first
          | (refine (f36_tr s p _).mono ?_; rintro _ τ2 ⟨rfl, hτ2⟩; rw [hτ2, hp])); refine sk_id ?_))
    exact sk_ret ⟨_, (by first | (simp only [aRet, Tryd.results76, aResults, aResult, go_sem, Nat.reduceLT, Nat.reduceLeDiff, Nat.reduceEqDiff, Nat.reduceAdd, Nat.reduceSub, Nat.reduceMul, reduceIte, reduceCtorEq] <;> rfl) | fail), rfl, rfl⟩
theorem f52_tr (s p : List Nat) (σ : AHeap) : Tr Tryd.prog 52 [.str s, .str p] σ fun v σ' => v = .str (if pre p s then s.drop p.length else s) ∧ σ' = σ := by
  refine sk_body (m := 8) Tryd.func52 rfl (by decide) rfl ?_
  repeat (first
    | refine sk_seq ?_
    | refine sk_region ?_
    | refine sk_ops_nil ?_
    | refine sk_block ?_
    | refine sk_blk ?_
    | refine sk_skip ?_
    | refine sk_exit rfl ?_
    | ((first | (apply sk_r; rfl; rfl) | (apply sk_w; rfl; rfl) | (apply sk_i; rfl) | (apply sk_g; rfl; rfl)); (simp only [go_sem, Nat.reduceLT, Nat.reduceLeDiff, Nat.reduceEqDiff, Nat.reduceAdd, Nat.reduceSub, Nat.reduceMul, reduceIte, reduceCtorEq] <;> rfl); (first | refine sk_id ?_ | refine cs_t ?_ | refine cs_f ?_ | refine gs_t rfl ?_ | refine gs_f rfl ?_))
    | ((first | (apply sk_c; rfl; rfl)); (simp only [go_sem, Nat.reduceLT, Nat.reduceLeDiff, Nat.reduceEqDiff, Nat.reduceAdd, Nat.reduceSub, Nat.reduceMul, reduceIte, reduceCtorEq] <;> rfl); (first
        | (refine (f76_tr s p _).mono ?_; rintro _ τ2 ⟨rfl, hτ2⟩; rw [hτ2])); refine sk_id ?_))
  exact sk_ret ⟨_, (by first | (simp only [aRet, Tryd.results52, aResults, aResult, go_sem, Nat.reduceLT, Nat.reduceLeDiff, Nat.reduceEqDiff, Nat.reduceAdd, Nat.reduceSub, Nat.reduceMul, reduceIte, reduceCtorEq] <;> rfl) | fail), rfl, rfl⟩
end Go.Proofs.YtophnlmdcidolaaDoor
namespace Go.Am
/-- a letter -/
def isLet (c : Nat) : Bool := (decide (65 ≤ c) && decide (c ≤ 90)) || (decide (97 ≤ c) && decide (c ≤ 122))
def or32 (c : Nat) : Nat := c ||| 32
theorem or32_eq : ∀ k : Fin 256, IntKind.wrap .u8 ((BitVec.ofInt 8 ((k.val : Nat) : Int) ||| BitVec.ofInt 8 32).toNat : Int) = ((or32 k.val : Nat) : Int) := by decide +kernel
theorem or32_let : ∀ k : Fin 256, isLet k.val = (decide (97 ≤ or32 k.val) && decide (or32 k.val ≤ 122)) := by decide +kernel
/-- a word, in letters of whatever size, stands at a place -/
def standsAt (s : List Nat) (p : Nat) (w : List Nat) : Bool := decide (p + w.length ≤ s.length) && decide ((((s.take (p + w.length)).drop p).map low) = w)
end Go.Am
namespace Go.Proofs.YtophnlmdcidolaaDoor
open Go Go.Am
set_option maxHeartbeats 8000000
set_option maxRecDepth 100000

theorem f53_tr (c : Nat) (hc : c < 256) (σ : AHeap) : Tr Tryd.prog 53 [.int .u8 c] σ fun v σ' => v = .bool (isLet c) ∧ σ' = σ := by
  refine sk_body (m := 11) Tryd.func53 rfl (by decide) rfl ?_
  have e : IntKind.wrap .u8 ((BitVec.ofInt IntKind.u8.bits ((c : Nat) : Int) ||| BitVec.ofInt IntKind.u8.bits 32).toNat : Int) = ((or32 c : Nat) : Int) := or32_eq ⟨c, hc⟩
  simp only [IntKind.bits] at e
  have el : isLet c = (decide (97 ≤ or32 c) && decide (or32 c ≤ 122)) := or32_let ⟨c, hc⟩
  rw [el]
  by_cases h1 : 97 ≤ or32 c
  · have e1 : decide (((or32 c : Nat) : Int) ≥ 97) = true := decide_eq_true (by omega)
    by_cases h2 : or32 c ≤ 122
    · have e2 : decide (((or32 c : Nat) : Int) ≤ 122) = true := decide_eq_true (by omega)
      repeat (first
        | refine sk_seq ?_
        | refine sk_region ?_
        | refine sk_ops_nil ?_
        | refine sk_block ?_
        | refine sk_blk ?_
        | refine sk_skip ?_
        | refine sk_exit rfl ?_
        | ((first | (apply sk_r; rfl; rfl) | (apply sk_w; rfl; rfl) | (apply sk_i; rfl) | (apply sk_g; rfl; rfl)); (simp only [go_sem, Nat.reduceLT, Nat.reduceLeDiff, Nat.reduceEqDiff, Nat.reduceAdd, Nat.reduceSub, Nat.reduceMul, reduceIte, reduceCtorEq, e, e1, e2] <;> rfl); (first | refine sk_id ?_ | refine cs_t ?_ | refine cs_f ?_ | refine gs_t rfl ?_ | refine gs_f rfl ?_)))
      exact sk_ret ⟨_, (by first | (simp only [aRet, Tryd.results53, aResults, aResult, go_sem, Nat.reduceLT, Nat.reduceLeDiff, Nat.reduceEqDiff, Nat.reduceAdd, Nat.reduceSub, Nat.reduceMul, reduceIte, reduceCtorEq] <;> rfl) | fail), by rw [decide_eq_true h1, decide_eq_true h2]; rfl, rfl⟩
    · have e2 : decide (((or32 c : Nat) : Int) ≤ 122) = false := decide_eq_false (by omega)
      repeat (first
        | refine sk_seq ?_
        | refine sk_region ?_
        | refine sk_ops_nil ?_
        | refine sk_block ?_
        | refine sk_blk ?_
        | refine sk_skip ?_
        | refine sk_exit rfl ?_
        | ((first | (apply sk_r; rfl; rfl) | (apply sk_w; rfl; rfl) | (apply sk_i; rfl) | (apply sk_g; rfl; rfl)); (simp only [go_sem, Nat.reduceLT, Nat.reduceLeDiff, Nat.reduceEqDiff, Nat.reduceAdd, Nat.reduceSub, Nat.reduceMul, reduceIte, reduceCtorEq, e, e1, e2] <;> rfl); (first | refine sk_id ?_ | refine cs_t ?_ | refine cs_f ?_ | refine gs_t rfl ?_ | refine gs_f rfl ?_)))
      exact sk_ret ⟨_, (by first | (simp only [aRet, Tryd.results53, aResults, aResult, go_sem, Nat.reduceLT, Nat.reduceLeDiff, Nat.reduceEqDiff, Nat.reduceAdd, Nat.reduceSub, Nat.reduceMul, reduceIte, reduceCtorEq] <;> rfl) | fail), by rw [decide_eq_true h1, decide_eq_false h2]; rfl, rfl⟩
  · have e1 : decide (((or32 c : Nat) : Int) ≥ 97) = false := decide_eq_false (by omega)
    repeat (first
      | refine sk_seq ?_
      | refine sk_region ?_
      | refine sk_ops_nil ?_
      | refine sk_block ?_
      | refine sk_blk ?_
      | refine sk_skip ?_
      | refine sk_exit rfl ?_
      | ((first | (apply sk_r; rfl; rfl) | (apply sk_w; rfl; rfl) | (apply sk_i; rfl) | (apply sk_g; rfl; rfl)); (simp only [go_sem, Nat.reduceLT, Nat.reduceLeDiff, Nat.reduceEqDiff, Nat.reduceAdd, Nat.reduceSub, Nat.reduceMul, reduceIte, reduceCtorEq, e, e1] <;> rfl); (first | refine sk_id ?_ | refine cs_t ?_ | refine cs_f ?_ | refine gs_t rfl ?_ | refine gs_f rfl ?_)))
    exact sk_ret ⟨_, (by first | (simp only [aRet, Tryd.results53, aResults, aResult, go_sem, Nat.reduceLT, Nat.reduceLeDiff, Nat.reduceEqDiff, Nat.reduceAdd, Nat.reduceSub, Nat.reduceMul, reduceIte, reduceCtorEq] <;> rfl) | fail), by rw [decide_eq_false h1]; rfl, rfl⟩

theorem f22_tr (c : Nat) (σ : AHeap) : Tr Tryd.prog 22 [.int .u8 c] σ fun v σ' => v = .bool (isLet c) ∧ σ' = σ := by
  refine sk_body (m := 17) Tryd.func22 rfl (by decide) rfl ?_
  by_cases h1 : 65 ≤ c
  · have e1 : decide ((c : Int) > 64) = true := decide_eq_true (by omega)
    by_cases h2 : c ≤ 90
    · have e2 : decide ((c : Int) < 91) = true := decide_eq_true (by omega)
      repeat (first
        | refine sk_seq ?_
        | refine sk_region ?_
        | refine sk_ops_nil ?_
        | refine sk_block ?_
        | refine sk_blk ?_
        | refine sk_skip ?_
        | refine sk_exit rfl ?_
        | ((first | (apply sk_r; rfl; rfl) | (apply sk_w; rfl; rfl) | (apply sk_i; rfl) | (apply sk_g; rfl; rfl)); (simp only [go_sem, Nat.reduceLT, Nat.reduceLeDiff, Nat.reduceEqDiff, Nat.reduceAdd, Nat.reduceSub, Nat.reduceMul, reduceIte, reduceCtorEq, e1, e2] <;> rfl); (first | refine sk_id ?_ | refine cs_t ?_ | refine cs_f ?_ | refine gs_t rfl ?_ | refine gs_f rfl ?_)))
      exact sk_ret ⟨_, (by first | (simp only [aRet, Tryd.results22, aResults, aResult, go_sem, Nat.reduceLT, Nat.reduceLeDiff, Nat.reduceEqDiff, Nat.reduceAdd, Nat.reduceSub, Nat.reduceMul, reduceIte, reduceCtorEq] <;> rfl) | fail), by unfold isLet; rw [decide_eq_true h1, decide_eq_true h2]; rfl, rfl⟩
    · have e2 : decide ((c : Int) < 91) = false := decide_eq_false (by omega)
      by_cases h3 : 97 ≤ c
      · have e3 : decide ((c : Int) > 96) = true := decide_eq_true (by omega)
        by_cases h4 : c ≤ 122
        · have e4 : decide ((c : Int) < 123) = true := decide_eq_true (by omega)
          repeat (first
            | refine sk_seq ?_
            | refine sk_region ?_
            | refine sk_ops_nil ?_
            | refine sk_block ?_
            | refine sk_blk ?_
            | refine sk_skip ?_
            | refine sk_exit rfl ?_
            | ((first | (apply sk_r; rfl; rfl) | (apply sk_w; rfl; rfl) | (apply sk_i; rfl) | (apply sk_g; rfl; rfl)); (simp only [go_sem, Nat.reduceLT, Nat.reduceLeDiff, Nat.reduceEqDiff, Nat.reduceAdd, Nat.reduceSub, Nat.reduceMul, reduceIte, reduceCtorEq, e1, e2, e3, e4] <;> rfl); (first | refine sk_id ?_ | refine cs_t ?_ | refine cs_f ?_ | refine gs_t rfl ?_ | refine gs_f rfl ?_)))
          exact sk_ret ⟨_, (by first | (simp only [aRet, Tryd.results22, aResults, aResult, go_sem, Nat.reduceLT, Nat.reduceLeDiff, Nat.reduceEqDiff, Nat.reduceAdd, Nat.reduceSub, Nat.reduceMul, reduceIte, reduceCtorEq] <;> rfl) | fail), by unfold isLet; rw [decide_eq_false h2, decide_eq_true h3, decide_eq_true h4]; simp, rfl⟩
        · have e4 : decide ((c : Int) < 123) = false := decide_eq_false (by omega)
          repeat (first
            | refine sk_seq ?_
            | refine sk_region ?_
            | refine sk_ops_nil ?_
            | refine sk_block ?_
            | refine sk_blk ?_
            | refine sk_skip ?_
            | refine sk_exit rfl ?_
            | ((first | (apply sk_r; rfl; rfl) | (apply sk_w; rfl; rfl) | (apply sk_i; rfl) | (apply sk_g; rfl; rfl)); (simp only [go_sem, Nat.reduceLT, Nat.reduceLeDiff, Nat.reduceEqDiff, Nat.reduceAdd, Nat.reduceSub, Nat.reduceMul, reduceIte, reduceCtorEq, e1, e2, e3, e4] <;> rfl); (first | refine sk_id ?_ | refine cs_t ?_ | refine cs_f ?_ | refine gs_t rfl ?_ | refine gs_f rfl ?_)))
          exact sk_ret ⟨_, (by first | (simp only [aRet, Tryd.results22, aResults, aResult, go_sem, Nat.reduceLT, Nat.reduceLeDiff, Nat.reduceEqDiff, Nat.reduceAdd, Nat.reduceSub, Nat.reduceMul, reduceIte, reduceCtorEq] <;> rfl) | fail), by unfold isLet; rw [decide_eq_false h2, decide_eq_false h4]; simp, rfl⟩
      · have e3 : decide ((c : Int) > 96) = false := decide_eq_false (by omega)
        repeat (first
          | refine sk_seq ?_
          | refine sk_region ?_
          | refine sk_ops_nil ?_
          | refine sk_block ?_
          | refine sk_blk ?_
          | refine sk_skip ?_
          | refine sk_exit rfl ?_
          | ((first | (apply sk_r; rfl; rfl) | (apply sk_w; rfl; rfl) | (apply sk_i; rfl) | (apply sk_g; rfl; rfl)); (simp only [go_sem, Nat.reduceLT, Nat.reduceLeDiff, Nat.reduceEqDiff, Nat.reduceAdd, Nat.reduceSub, Nat.reduceMul, reduceIte, reduceCtorEq, e1, e2, e3] <;> rfl); (first | refine sk_id ?_ | refine cs_t ?_ | refine cs_f ?_ | refine gs_t rfl ?_ | refine gs_f rfl ?_)))
        exact sk_ret ⟨_, (by first | (simp only [aRet, Tryd.results22, aResults, aResult, go_sem, Nat.reduceLT, Nat.reduceLeDiff, Nat.reduceEqDiff, Nat.reduceAdd, Nat.reduceSub, Nat.reduceMul, reduceIte, reduceCtorEq] <;> rfl) | fail), by unfold isLet; rw [decide_eq_false h2, decide_eq_false h3]; simp, rfl⟩
  · have e1 : decide ((c : Int) > 64) = false := decide_eq_false (by omega)
    have e3 : decide ((c : Int) > 96) = false := decide_eq_false (by omega)
    repeat (first
      | refine sk_seq ?_
      | refine sk_region ?_
      | refine sk_ops_nil ?_
      | refine sk_block ?_
      | refine sk_blk ?_
      | refine sk_skip ?_
      | refine sk_exit rfl ?_
      | ((first | (apply sk_r; rfl; rfl) | (apply sk_w; rfl; rfl) | (apply sk_i; rfl) | (apply sk_g; rfl; rfl)); (simp only [go_sem, Nat.reduceLT, Nat.reduceLeDiff, Nat.reduceEqDiff, Nat.reduceAdd, Nat.reduceSub, Nat.reduceMul, reduceIte, reduceCtorEq, e1, e3] <;> rfl); (first | refine sk_id ?_ | refine cs_t ?_ | refine cs_f ?_ | refine gs_t rfl ?_ | refine gs_f rfl ?_)))
    exact sk_ret ⟨_, (by first | (simp only [aRet, Tryd.results22, aResults, aResult, go_sem, Nat.reduceLT, Nat.reduceLeDiff, Nat.reduceEqDiff, Nat.reduceAdd, Nat.reduceSub, Nat.reduceMul, reduceIte, reduceCtorEq] <;> rfl) | fail), by unfold isLet; rw [decide_eq_false h1, decide_eq_false (by omega : ¬ 97 ≤ c)]; rfl, rfl⟩

theorem f19_tr (s w : List Nat) (p : Nat) (hd : ∀ c ∈ s, c < 256) (hs : s.length ≤ 1000000) (hp : p ≤ s.length) (hw : w.length ≤ 1000000) (σ : AHeap) : Tr Tryd.prog 19 [.str s, .int .i64 (p : Nat), .str w] σ fun v σ' => v = .bool (standsAt s p w) ∧ σ' = σ := by
  refine sk_body (m := 26) Tryd.func19 rfl (by decide) rfl ?_
  have e0 : IntKind.wrap .i64 ((p : Int) + (w.length : Int)) = ((p + w.length : Nat) : Int) := by rw [wrap_i64 (by omega) (by omega)]; rfl
  unfold standsAt
  by_cases h : p + w.length ≤ s.length
  · have e1 : decide (((p + w.length : Nat) : Int) ≤ (s.length : Int)) = true := decide_eq_true (by omega)
    have e2 : (0 : Int) ≤ (p : Int) := by omega
    have e3 : (p : Int) ≤ ((p + w.length : Nat) : Int) := by omega
    have e4 : ((p + w.length : Nat) : Int) ≤ (s.length : Int) := by omega
    have e5 : beqL (((s.take (p + w.length)).drop p).map low) w = decide ((((s.take (p + w.length)).drop p).map low) = w) := beqL_eq _ _
    repeat (first
      | refine sk_seq ?_
      | refine sk_region ?_
      | refine sk_ops_nil ?_
      | refine sk_block ?_
      | refine sk_blk ?_
      | refine sk_skip ?_
      | refine sk_exit rfl ?_
      | ((first | (apply sk_r; rfl; rfl) | (apply sk_w; rfl; rfl) | (apply sk_i; rfl) | (apply sk_g; rfl; rfl)); (simp only [go_sem, Nat.reduceLT, Nat.reduceLeDiff, Nat.reduceEqDiff, Nat.reduceAdd, Nat.reduceSub, Nat.reduceMul, reduceIte, reduceCtorEq, e0, e1, e2, e3, e4, e5, and_self] <;> rfl); (first | refine sk_id ?_ | refine cs_t ?_ | refine cs_f ?_ | refine gs_t rfl ?_ | refine gs_f rfl ?_))
      | ((first | (apply sk_c; rfl; rfl)); (simp only [go_sem, Nat.reduceLT, Nat.reduceLeDiff, Nat.reduceEqDiff, Nat.reduceAdd, Nat.reduceSub, Nat.reduceMul, reduceIte, reduceCtorEq, e0, e1, e2, e3, e4, e5, and_self] <;> rfl); (first
          | (refine (f24_tr _ (fun c hc => hd c (List.mem_of_mem_take (List.mem_of_mem_drop hc))) (by rw [List.length_drop, List.length_take]; omega) _).mono ?_; rintro _ τ2 ⟨rfl, hτ2⟩; rw [hτ2])); refine sk_id ?_))
    exact sk_ret ⟨_, (by first | (simp only [aRet, Tryd.results19, aResults, aResult, go_sem, Nat.reduceLT, Nat.reduceLeDiff, Nat.reduceEqDiff, Nat.reduceAdd, Nat.reduceSub, Nat.reduceMul, reduceIte, reduceCtorEq] <;> rfl) | fail), by rw [decide_eq_true h]; rfl, rfl⟩
  · have e1 : decide (((p + w.length : Nat) : Int) ≤ (s.length : Int)) = false := decide_eq_false (by omega)
    repeat (first
      | refine sk_seq ?_
      | refine sk_region ?_
      | refine sk_ops_nil ?_
      | refine sk_block ?_
      | refine sk_blk ?_
      | refine sk_skip ?_
      | refine sk_exit rfl ?_
      | ((first | (apply sk_r; rfl; rfl) | (apply sk_w; rfl; rfl) | (apply sk_i; rfl) | (apply sk_g; rfl; rfl)); (simp only [go_sem, Nat.reduceLT, Nat.reduceLeDiff, Nat.reduceEqDiff, Nat.reduceAdd, Nat.reduceSub, Nat.reduceMul, reduceIte, reduceCtorEq, e0, e1] <;> rfl); (first | refine sk_id ?_ | refine cs_t ?_ | refine cs_f ?_ | refine gs_t rfl ?_ | refine gs_f rfl ?_)))
    exact sk_ret ⟨_, (by first | (simp only [aRet, Tryd.results19, aResults, aResult, go_sem, Nat.reduceLT, Nat.reduceLeDiff, Nat.reduceEqDiff, Nat.reduceAdd, Nat.reduceSub, Nat.reduceMul, reduceIte, reduceCtorEq] <;> rfl) | fail), by rw [decide_eq_false h]; rfl, rfl⟩
end Go.Proofs.YtophnlmdcidolaaDoor
namespace Go.Am
theorem indexN_spec : ∀ (l t : List Nat), (indexN l t = -1 ∧ ∀ j, j ≤ l.length → t.isPrefixOf (l.drop j) = false) ∨ ∃ i : Nat, indexN l t = (i : Int) ∧ i ≤ l.length ∧ t.isPrefixOf (l.drop i) = true ∧ ∀ j, j < i → t.isPrefixOf (l.drop j) = false
  | [], t => by
    unfold indexN
    cases t with
    | nil => exact .inr ⟨0, rfl, by simp, rfl, fun j h => by omega⟩
    | cons a t => exact .inl ⟨rfl, fun j _ => by simp⟩
  | b :: l, t => by
    unfold indexN
    by_cases h : t.isPrefixOf (b :: l) = true
    · rw [if_pos h]
      exact .inr ⟨0, rfl, by simp, h, fun j h => by omega⟩
    · have hf : t.isPrefixOf (b :: l) = false := Bool.eq_false_iff.2 h
      rw [if_neg h]
      rcases indexN_spec l t with ⟨h1, h2⟩ | ⟨i, h1, h2, h3, h4⟩
      · rw [h1]
        refine .inl ⟨rfl, fun j hj => ?_⟩
        cases j with
        | zero => exact hf
        | succ j => exact h2 j (by simpa using hj)
      · rw [h1]
        have hb : (((i : Nat) : Int) == -1) = false := beq_false_of_ne (by omega)
        rw [hb]
        refine .inr ⟨i + 1, by simp, by simp; omega, h3, fun j hj => ?_⟩
        cases j with
        | zero => exact hf
        | succ j => exact h4 j (by omega)
theorem pre_take {t l : List Nat} (h : t.isPrefixOf l = true) : t.length ≤ l.length ∧ l.take t.length = t := by
  have := List.isPrefixOf_iff_prefix.1 h
  obtain ⟨u, rfl⟩ := this
  exact ⟨by simp, List.take_left⟩
end Go.Am
namespace Go.Proofs.YtophnlmdcidolaaDoor
open Go Go.Am
set_option maxHeartbeats 8000000
set_option maxRecDepth 100000

/-- cut around the first instance -/
def cutAV (l t : List Nat) : AV := if indexN l t = -1 then .tuple [.str l, .str [], .bool false] else .tuple [.str (l.take (indexN l t).toNat), .str (l.drop ((indexN l t).toNat + t.length)), .bool true]
theorem f85_tr {σ : AHeap} {l t : List Nat} {m : Int} {ro : Bool} {fz : Nat} {ps : List Nat} (hm : σ.m.get 0 = some (.cells [.int .i64 m] ro fz ps)) (hl : l.length ≤ 1000000) :
    Tr Tryd.prog 85 [.str l, .str t] σ fun v σ' => v = cutAV l t ∧ σ' = σ := by
  refine sk_body (m := 23) Tryd.func85 rfl (by decide) rfl ?_
  have s75 := f75_tr (l := l) (t := t) hm (by omega)
  unfold cutAV
  rcases indexN_spec l t with ⟨h1, _⟩ | ⟨i, h1, h2, h3, _⟩
  · rw [h1] at s75 ⊢
    have e1 : decide ((-1 : Int) ≥ 0) = false := rfl
    rw [if_pos rfl]
    repeat (first
      | refine sk_seq ?_
      | refine sk_region ?_
      | refine sk_ops_nil ?_
      | refine sk_draw_nil ?_
      | refine sk_block ?_
      | refine sk_blk ?_
      | refine sk_skip ?_
      | refine sk_exit rfl ?_
      | refine sk_draw (id := 3) [0, 1, 2, 3, 4, 5, 6, 7, 8, 9, 10, 11] mixed (by kernel_rfl) ?_
      | ((first | (apply sk_r; rfl; rfl) | (apply sk_w; rfl; rfl) | (apply sk_i; rfl) | (apply sk_g; rfl; rfl) | (apply sk_dr; rfl; rfl; rfl) | (apply sk_dg; rfl; rfl; rfl; rfl; rfl) | apply drd_i | (apply sk_dnr (i := 9) (fl := []); rfl; rfl; decide +kernel; rfl; rfl) | (apply sk_dnw (i := 9) (fl := []); rfl; rfl; decide +kernel; rfl; rfl) | (apply sk_dnr (i := 10) (fl := []); rfl; rfl; decide +kernel; rfl; rfl) | (apply sk_dnw (i := 10) (fl := []); rfl; rfl; decide +kernel; rfl; rfl) | (apply sk_dnr (i := 11) (fl := []); rfl; rfl; decide +kernel; rfl; rfl) | (apply sk_dnw (i := 11) (fl := []); rfl; rfl; decide +kernel; rfl; rfl)); (simp only [go_sem, Nat.reduceLT, Nat.reduceLeDiff, Nat.reduceEqDiff, Nat.reduceAdd, Nat.reduceSub, Nat.reduceMul, reduceIte, reduceCtorEq, e1] <;> rfl); (first | refine sk_id ?_ | refine cs_t ?_ | refine cs_f ?_ | refine gs_t rfl ?_ | refine gs_f rfl ?_ | ((repeat (first | exact trivial | ((first | (apply redos_r; rfl; rfl) | (apply redos_g; rfl; rfl; rfl; rfl)); (simp only [go_sem, Nat.reduceLT, Nat.reduceLeDiff, Nat.reduceEqDiff, Nat.reduceAdd, Nat.reduceSub, Nat.reduceMul, reduceIte, reduceCtorEq, e1] <;> rfl)) | (apply redos_s; rfl; rfl; rfl; (simp only [go_sem, Nat.reduceLT, Nat.reduceLeDiff, Nat.reduceEqDiff, Nat.reduceAdd, Nat.reduceSub, Nat.reduceMul, reduceIte, reduceCtorEq, e1] <;> rfl)))); refine sk_id ?_)))
      | ((first | (apply sk_c; rfl; rfl)); (simp only [go_sem, Nat.reduceLT, Nat.reduceLeDiff, Nat.reduceEqDiff, Nat.reduceAdd, Nat.reduceSub, Nat.reduceMul, reduceIte, reduceCtorEq, e1] <;> rfl); (first
          | (refine s75.mono ?_; rintro _ τ ⟨rfl, hτ⟩; rw [hτ])); (first | refine sk_id ?_ | (refine ⟨?_, ?_⟩; (repeat (first | exact trivial | ((first | (apply redos_r; rfl; rfl) | (apply redos_g; rfl; rfl; rfl; rfl)); (simp only [go_sem, Nat.reduceLT, Nat.reduceLeDiff, Nat.reduceEqDiff, Nat.reduceAdd, Nat.reduceSub, Nat.reduceMul, reduceIte, reduceCtorEq, e1] <;> rfl)) | (apply redos_s; rfl; rfl; rfl; (simp only [go_sem, Nat.reduceLT, Nat.reduceLeDiff, Nat.reduceEqDiff, Nat.reduceAdd, Nat.reduceSub, Nat.reduceMul, reduceIte, reduceCtorEq, e1] <;> rfl)))); refine sk_id ?_))))
    exact sk_ret ⟨_, (by first | (simp only [aRet, Tryd.results85, aResults, aResult, go_sem, Nat.reduceLT, Nat.reduceLeDiff, Nat.reduceEqDiff, Nat.reduceAdd, Nat.reduceSub, Nat.reduceMul, reduceIte, reduceCtorEq] <;> rfl) | fail), rfl, rfl⟩
  · rw [h1] at s75 ⊢
    rw [if_neg (by omega)]
    have hp := (pre_take h3).1
    rw [List.length_drop] at hp
    have e1 : decide ((i : Int) ≥ 0) = true := decide_eq_true (by omega)
    have e2 : (0 : Int) ≤ (i : Int) := by omega
    have e3 : (i : Int) ≤ (l.length : Int) := by omega
    have e4 : IntKind.wrap .i64 ((i : Int) + (t.length : Int)) = ((i + t.length : Nat) : Int) := by rw [wrap_i64 (by omega) (by omega)]; rfl
    have e5 : (0 : Int) ≤ ((i + t.length : Nat) : Int) := by omega
    have e6 : ((i + t.length : Nat) : Int) ≤ (l.length : Int) := by omega
    repeat (first
      | refine sk_seq ?_
      | refine sk_region ?_
      | refine sk_ops_nil ?_
      | refine sk_draw_nil ?_
      | refine sk_block ?_
      | refine sk_blk ?_
      | refine sk_skip ?_
      | refine sk_exit rfl ?_
      | refine sk_draw (id := 3) [0, 1, 2, 3, 4, 5, 6, 7, 8, 9, 10, 11] mixed (by kernel_rfl) ?_
      | ((first | (apply sk_r; rfl; rfl) | (apply sk_w; rfl; rfl) | (apply sk_i; rfl) | (apply sk_g; rfl; rfl) | (apply sk_dr; rfl; rfl; rfl) | (apply sk_dg; rfl; rfl; rfl; rfl; rfl) | apply drd_i | (apply sk_dnr (i := 9) (fl := []); rfl; rfl; decide +kernel; rfl; rfl) | (apply sk_dnw (i := 9) (fl := []); rfl; rfl; decide +kernel; rfl; rfl) | (apply sk_dnr (i := 10) (fl := []); rfl; rfl; decide +kernel; rfl; rfl) | (apply sk_dnw (i := 10) (fl := []); rfl; rfl; decide +kernel; rfl; rfl) | (apply sk_dnr (i := 11) (fl := []); rfl; rfl; decide +kernel; rfl; rfl) | (apply sk_dnw (i := 11) (fl := []); rfl; rfl; decide +kernel; rfl; rfl)); (simp only [go_sem, Nat.reduceLT, Nat.reduceLeDiff, Nat.reduceEqDiff, Nat.reduceAdd, Nat.reduceSub, Nat.reduceMul, reduceIte, reduceCtorEq, e1, e2, e3, e4, e5, e6, and_self, Int.le_refl, List.drop_zero, List.take_length] <;> rfl); (first | refine sk_id ?_ | refine cs_t ?_ | refine cs_f ?_ | refine gs_t rfl ?_ | refine gs_f rfl ?_ | ((repeat (first | exact trivial | ((first | (apply redos_r; rfl; rfl) | (apply redos_g; rfl; rfl; rfl; rfl)); (simp only [go_sem, Nat.reduceLT, Nat.reduceLeDiff, Nat.reduceEqDiff, Nat.reduceAdd, Nat.reduceSub, Nat.reduceMul, reduceIte, reduceCtorEq, e1, e2, e3, e4, e5, e6, and_self, Int.le_refl, List.drop_zero, List.take_length] <;> rfl)) | (apply redos_s; rfl; rfl; rfl; (simp only [go_sem, Nat.reduceLT, Nat.reduceLeDiff, Nat.reduceEqDiff, Nat.reduceAdd, Nat.reduceSub, Nat.reduceMul, reduceIte, reduceCtorEq, e1, e2, e3, e4, e5, e6, and_self, Int.le_refl, List.drop_zero, List.take_length] <;> rfl)))); refine sk_id ?_)))
      | ((first | (apply sk_c; rfl; rfl)); (simp only [go_sem, Nat.reduceLT, Nat.reduceLeDiff, Nat.reduceEqDiff, Nat.reduceAdd, Nat.reduceSub, Nat.reduceMul, reduceIte, reduceCtorEq, e1, e2, e3, e4, e5, e6, and_self, Int.le_refl, List.drop_zero, List.take_length] <;> rfl); (first
          | (refine s75.mono ?_; rintro _ τ ⟨rfl, hτ⟩; rw [hτ])); (first | refine sk_id ?_ | (refine ⟨?_, ?_⟩; (repeat (first | exact trivial | ((first | (apply redos_r; rfl; rfl) | (apply redos_g; rfl; rfl; rfl; rfl)); (simp only [go_sem, Nat.reduceLT, Nat.reduceLeDiff, Nat.reduceEqDiff, Nat.reduceAdd, Nat.reduceSub, Nat.reduceMul, reduceIte, reduceCtorEq, e1, e2, e3, e4, e5, e6, and_self, Int.le_refl, List.drop_zero, List.take_length] <;> rfl)) | (apply redos_s; rfl; rfl; rfl; (simp only [go_sem, Nat.reduceLT, Nat.reduceLeDiff, Nat.reduceEqDiff, Nat.reduceAdd, Nat.reduceSub, Nat.reduceMul, reduceIte, reduceCtorEq, e1, e2, e3, e4, e5, e6, and_self, Int.le_refl, List.drop_zero, List.take_length] <;> rfl)))); refine sk_id ?_))))
    (apply sk_dnr (i := 9) (fl := [8, 7, 6, 5, 4, 3]); rfl; rfl; decide +kernel; rfl; rfl; (simp only [go_sem, Nat.reduceLT, Nat.reduceLeDiff, Nat.reduceEqDiff, Nat.reduceAdd, Nat.reduceSub, Nat.reduceMul, reduceIte, reduceCtorEq, e1, e2, e3, e4, e5, e6, and_self, Int.le_refl, List.drop_zero, List.take_length] <;> rfl); (repeat (first | exact trivial | ((apply redos_r; rfl; rfl); (simp only [go_sem, Nat.reduceLT, Nat.reduceLeDiff, Nat.reduceEqDiff, Nat.reduceAdd, Nat.reduceSub, Nat.reduceMul, reduceIte, reduceCtorEq, e1, e2, e3, e4, e5, e6, and_self, Int.le_refl, List.drop_zero, List.take_length] <;> rfl)))))
    repeat (first
      | refine sk_seq ?_
      | refine sk_region ?_
      | refine sk_ops_nil ?_
      | refine sk_draw_nil ?_
      | refine sk_block ?_
      | refine sk_blk ?_
      | refine sk_skip ?_
      | refine sk_exit rfl ?_
      | refine sk_draw (id := 3) [0, 1, 2, 3, 4, 5, 6, 7, 8, 9, 10, 11] mixed (by kernel_rfl) ?_
      | ((first | (apply sk_r; rfl; rfl) | (apply sk_w; rfl; rfl) | (apply sk_i; rfl) | (apply sk_g; rfl; rfl) | (apply sk_dr; rfl; rfl; rfl) | (apply sk_dg; rfl; rfl; rfl; rfl; rfl) | apply drd_i | (apply sk_dnr (i := 9) (fl := []); rfl; rfl; decide +kernel; rfl; rfl) | (apply sk_dnw (i := 9) (fl := []); rfl; rfl; decide +kernel; rfl; rfl) | (apply sk_dnr (i := 10) (fl := []); rfl; rfl; decide +kernel; rfl; rfl) | (apply sk_dnw (i := 10) (fl := []); rfl; rfl; decide +kernel; rfl; rfl) | (apply sk_dnr (i := 11) (fl := []); rfl; rfl; decide +kernel; rfl; rfl) | (apply sk_dnw (i := 11) (fl := []); rfl; rfl; decide +kernel; rfl; rfl)); (simp only [go_sem, Nat.reduceLT, Nat.reduceLeDiff, Nat.reduceEqDiff, Nat.reduceAdd, Nat.reduceSub, Nat.reduceMul, reduceIte, reduceCtorEq, e1, e2, e3, e4, e5, e6, and_self, Int.le_refl, List.drop_zero, List.take_length] <;> rfl); (first | refine sk_id ?_ | refine cs_t ?_ | refine cs_f ?_ | refine gs_t rfl ?_ | refine gs_f rfl ?_ | ((repeat (first | exact trivial | ((first | (apply redos_r; rfl; rfl) | (apply redos_g; rfl; rfl; rfl; rfl)); (simp only [go_sem, Nat.reduceLT, Nat.reduceLeDiff, Nat.reduceEqDiff, Nat.reduceAdd, Nat.reduceSub, Nat.reduceMul, reduceIte, reduceCtorEq, e1, e2, e3, e4, e5, e6, and_self, Int.le_refl, List.drop_zero, List.take_length] <;> rfl)) | (apply redos_s; rfl; rfl; rfl; (simp only [go_sem, Nat.reduceLT, Nat.reduceLeDiff, Nat.reduceEqDiff, Nat.reduceAdd, Nat.reduceSub, Nat.reduceMul, reduceIte, reduceCtorEq, e1, e2, e3, e4, e5, e6, and_self, Int.le_refl, List.drop_zero, List.take_length] <;> rfl)))); refine sk_id ?_))))
    exact sk_ret ⟨_, (by first | (simp only [aRet, Tryd.results85, aResults, aResult, go_sem, Nat.reduceLT, Nat.reduceLeDiff, Nat.reduceEqDiff, Nat.reduceAdd, Nat.reduceSub, Nat.reduceMul, reduceIte, reduceCtorEq] <;> rfl) | fail), by rfl, rfl⟩
theorem f73_tr {σ : AHeap} {l t : List Nat} {m : Int} {ro : Bool} {fz : Nat} {ps : List Nat} (hm : σ.m.get 0 = some (.cells [.int .i64 m] ro fz ps)) (hl : l.length ≤ 1000000) :
    Tr Tryd.prog 73 [.str l, .str t] σ fun v σ' => v = cutAV l t ∧ σ' = σ := by
  refine sk_body (m := 13) Tryd.func73 rfl (by decide) rfl ?_
  have s85 := f85_tr (l := l) (t := t) hm hl
  unfold cutAV at s85 ⊢
  by_cases h : indexN l t = -1
  · simp only [if_pos h] at s85 ⊢
    repeat (first
      | refine sk_seq ?_
      | refine sk_region ?_
      | refine sk_ops_nil ?_
      | refine sk_block ?_
      | refine sk_blk ?_
      | refine sk_skip ?_
      | refine sk_exit rfl ?_
      | ((first | (apply sk_r; rfl; rfl) | (apply sk_w; rfl; rfl) | (apply sk_i; rfl) | (apply sk_g; rfl; rfl)); (simp only [go_sem, Nat.reduceLT, Nat.reduceLeDiff, Nat.reduceEqDiff, Nat.reduceAdd, Nat.reduceSub, Nat.reduceMul, reduceIte, reduceCtorEq] <;> rfl); (first | refine sk_id ?_ | refine cs_t ?_ | refine cs_f ?_ | refine gs_t rfl ?_ | refine gs_f rfl ?_))
      | ((first | (apply sk_c; rfl; rfl)); (simp only [go_sem, Nat.reduceLT, Nat.reduceLeDiff, Nat.reduceEqDiff, Nat.reduceAdd, Nat.reduceSub, Nat.reduceMul, reduceIte, reduceCtorEq] <;> rfl); (first
          | (refine s85.mono ?_; rintro _ τ ⟨rfl, hτ⟩; rw [hτ])); refine sk_id ?_))
    exact sk_ret ⟨_, (by first | (simp only [aRet, Tryd.results73, aResults, aResult, go_sem, Nat.reduceLT, Nat.reduceLeDiff, Nat.reduceEqDiff, Nat.reduceAdd, Nat.reduceSub, Nat.reduceMul, reduceIte, reduceCtorEq] <;> rfl) | fail), rfl, rfl⟩
  · simp only [if_neg h] at s85 ⊢
    repeat (first
      | refine sk_seq ?_
      | refine sk_region ?_
      | refine sk_ops_nil ?_
      | refine sk_block ?_
      | refine sk_blk ?_
      | refine sk_skip ?_
      | refine sk_exit rfl ?_
      | ((first | (apply sk_r; rfl; rfl) | (apply sk_w; rfl; rfl) | (apply sk_i; rfl) | (apply sk_g; rfl; rfl)); (simp only [go_sem, Nat.reduceLT, Nat.reduceLeDiff, Nat.reduceEqDiff, Nat.reduceAdd, Nat.reduceSub, Nat.reduceMul, reduceIte, reduceCtorEq] <;> rfl); (first | refine sk_id ?_ | refine cs_t ?_ | refine cs_f ?_ | refine gs_t rfl ?_ | refine gs_f rfl ?_))
      | ((first | (apply sk_c; rfl; rfl)); (simp only [go_sem, Nat.reduceLT, Nat.reduceLeDiff, Nat.reduceEqDiff, Nat.reduceAdd, Nat.reduceSub, Nat.reduceMul, reduceIte, reduceCtorEq] <;> rfl); (first
          | (refine s85.mono ?_; rintro _ τ ⟨rfl, hτ⟩; rw [hτ])); refine sk_id ?_))
    exact sk_ret ⟨_, (by first | (simp only [aRet, Tryd.results73, aResults, aResult, go_sem, Nat.reduceLT, Nat.reduceLeDiff, Nat.reduceEqDiff, Nat.reduceAdd, Nat.reduceSub, Nat.reduceMul, reduceIte, reduceCtorEq] <;> rfl) | fail), rfl, rfl⟩
end Go.Proofs.YtophnlmdcidolaaDoor
namespace Go.Am
theorem rt_cons (S : List Nat) (c : Nat) (t : List Nat) : rt S (c :: t) = if rt S t = [] ∧ isIn S c = true then [] else c :: rt S t := by
  unfold rt
  rw [List.reverse_cons, List.dropWhile_append]
  by_cases h : (t.reverse.dropWhile (isIn S)) = []
  · rw [h]
    cases hc : isIn S c <;> simp [hc]
  · have hb : (t.reverse.dropWhile (isIn S)).isEmpty = false := by
      cases e : t.reverse.dropWhile (isIn S) with
      | nil => exact absurd e h
      | cons a b => rfl
    rw [if_neg (by rw [hb]; simp), if_neg (by simp [h])]
    simp
theorem dw_drop (p : Nat → Bool) : ∀ l : List Nat, l.dropWhile p = l.drop (l.takeWhile p).length
  | [] => rfl
  | c :: t => by
    by_cases h : p c = true
    · rw [List.dropWhile_cons_of_pos h, List.takeWhile_cons_of_pos h, dw_drop p t]; rfl
    · rw [List.dropWhile_cons_of_neg h, List.takeWhile_cons_of_neg h]; rfl
theorem tr_comm (S : List Nat) : ∀ l : List Nat, tr S l = rt S (l.dropWhile (isIn S))
  | [] => rfl
  | c :: t => by
    have ih := tr_comm S t
    unfold tr at ih ⊢
    rw [rt_cons]
    cases hc : isIn S c
    · rw [if_neg (by simp), List.dropWhile_cons_of_neg (by simp [hc]), List.dropWhile_cons_of_neg (by simp [hc]), rt_cons, if_neg (by simp [hc])]
    · rw [List.dropWhile_cons_of_pos hc, ← ih]
      by_cases h : rt S t = []
      · rw [if_pos ⟨h, rfl⟩, h]
      · rw [if_neg (by simp [h]), List.dropWhile_cons_of_pos hc]
end Go.Am
namespace Go.Proofs.YtophnlmdcidolaaDoor
open Go Go.Am
set_option maxHeartbeats 8000000
set_option maxRecDepth 100000
theorem f25_tr (s : List Nat) (hd : ∀ c ∈ s, c < 256) (hl : s.length ≤ 140737488355327) (σ : AHeap) : Tr Tryd.prog 25 [.str s] σ fun v σ' => v = .str (Am.tr B5 s) ∧ σ' = σ := by
  refine sk_body (m := 34) Tryd.func25 rfl (by decide) rfl ?_
  repeat (first
    | refine sk_seq ?_
    | refine sk_region ?_
    | refine sk_ops_nil ?_
    | refine sk_block ?_
    | refine sk_blk ?_
    | refine sk_skip ?_
    | refine sk_exit rfl ?_
    | ((first | (apply sk_r; rfl; rfl) | (apply sk_w; rfl; rfl) | (apply sk_i; rfl) | (apply sk_g; rfl; rfl)); (simp only [go_sem, Nat.reduceLT, Nat.reduceLeDiff, Nat.reduceEqDiff, Nat.reduceAdd, Nat.reduceSub, Nat.reduceMul, reduceIte, reduceCtorEq] <;> rfl); (first | refine sk_id ?_ | refine cs_t ?_ | refine cs_f ?_ | refine gs_t rfl ?_ | refine gs_f rfl ?_)))
  obtain ⟨a, ha⟩ : ∃ a, a = run (isIn [9, 10, 12, 13, 32]) s 0 := ⟨_, rfl⟩
  have hal : a ≤ s.length := by rw [ha]; exact run_le (Nat.zero_le _)
  refine sk_cut (fun fr σ' => σ' = σ ∧ fget fr 0 = .str s ∧ fget fr 3 = .int .i64 (a : Nat) ∧ fget fr 4 = .int .i64 (s.length : Nat)) ?_ ?_
  · refine sk_loop (fun m fr σ' => ∃ i, m = s.length - i ∧ i ≤ s.length ∧ run (isIn [9, 10, 12, 13, 32]) s i = a ∧ σ' = σ ∧ fget fr 0 = .str s ∧ fget fr 3 = .int .i64 (i : Nat) ∧ fget fr 4 = .int .i64 (s.length : Nat)) _
      ⟨0, rfl, Nat.zero_le _, ha.symm, rfl, (by first | (simp only [go_sem, Nat.reduceLT, Nat.reduceLeDiff, Nat.reduceEqDiff, Nat.reduceAdd, Nat.reduceSub, Nat.reduceMul, reduceIte, reduceCtorEq] <;> rfl) | fail), (by first | (simp only [go_sem, Nat.reduceLT, Nat.reduceLeDiff, Nat.reduceEqDiff, Nat.reduceAdd, Nat.reduceSub, Nat.reduceMul, reduceIte, reduceCtorEq] <;> rfl) | fail), (by first | (simp only [go_sem, Nat.reduceLT, Nat.reduceLeDiff, Nat.reduceEqDiff, Nat.reduceAdd, Nat.reduceSub, Nat.reduceMul, reduceIte, reduceCtorEq] <;> rfl) | fail)⟩ ?_
    rintro _ fr τ ⟨i, rfl, hi, hr, hτ, h0, h3, h4⟩
    rw [hτ]
    by_cases hil : i < s.length
    · obtain ⟨c, hc⟩ := at_some hil
      have e1 : decide ((i : Int) < (s.length : Int)) = true := decide_eq_true (by omega)
      have e2 : (0 : Int) ≤ (i : Int) := by omega
      have e4 : IntKind.wrap .i64 ((i : Int) + 1) = ((i + 1 : Nat) : Int) := wrap_i64 (by omega) (by omega)
      cases hb : isIn [9, 10, 12, 13, 32] c
      · repeat (first
          | refine sk_seq ?_
          | refine sk_region ?_
          | refine sk_ops_nil ?_
          | refine sk_block ?_
          | refine sk_blk ?_
          | refine sk_skip ?_
          | refine sk_exit rfl ?_
          | ((first | (apply sk_r; rfl; rfl) | (apply sk_w; rfl; rfl) | (apply sk_i; rfl) | (apply sk_g; rfl; rfl)); (simp only [go_sem, Nat.reduceLT, Nat.reduceLeDiff, Nat.reduceEqDiff, Nat.reduceAdd, Nat.reduceSub, Nat.reduceMul, reduceIte, reduceCtorEq, h0, h3, h4, e1, e2, e4, hc] <;> rfl); (first | refine sk_id ?_ | refine cs_t ?_ | refine cs_f ?_ | refine gs_t rfl ?_ | refine gs_f rfl ?_))
          | ((first | (apply sk_c; rfl; rfl)); (simp only [go_sem, Nat.reduceLT, Nat.reduceLeDiff, Nat.reduceEqDiff, Nat.reduceAdd, Nat.reduceSub, Nat.reduceMul, reduceIte, reduceCtorEq, h0, h3, h4, e1, e2, e4, hc] <;> rfl); (first
              | (refine (f20_tr _ _).mono ?_; rintro _ τ2 ⟨rfl, hτ2⟩; rw [hτ2, hb])); refine sk_id ?_))
        exact sk_end ⟨rfl, (by first | (simp only [go_sem, Nat.reduceLT, Nat.reduceLeDiff, Nat.reduceEqDiff, Nat.reduceAdd, Nat.reduceSub, Nat.reduceMul, reduceIte, reduceCtorEq, h0] <;> rfl) | fail), by rw [← hr, run_stop hc hb]; exact (by first | (simp only [go_sem, Nat.reduceLT, Nat.reduceLeDiff, Nat.reduceEqDiff, Nat.reduceAdd, Nat.reduceSub, Nat.reduceMul, reduceIte, reduceCtorEq, h3] <;> rfl) | fail), (by first | (simp only [go_sem, Nat.reduceLT, Nat.reduceLeDiff, Nat.reduceEqDiff, Nat.reduceAdd, Nat.reduceSub, Nat.reduceMul, reduceIte, reduceCtorEq, h4] <;> rfl) | fail)⟩
      · repeat (first
          | refine sk_seq ?_
          | refine sk_region ?_
          | refine sk_ops_nil ?_
          | refine sk_block ?_
          | refine sk_blk ?_
          | refine sk_skip ?_
          | refine sk_exit rfl ?_
          | ((first | (apply sk_r; rfl; rfl) | (apply sk_w; rfl; rfl) | (apply sk_i; rfl) | (apply sk_g; rfl; rfl)); (simp only [go_sem, Nat.reduceLT, Nat.reduceLeDiff, Nat.reduceEqDiff, Nat.reduceAdd, Nat.reduceSub, Nat.reduceMul, reduceIte, reduceCtorEq, h0, h3, h4, e1, e2, e4, hc] <;> rfl); (first | refine sk_id ?_ | refine cs_t ?_ | refine cs_f ?_ | refine gs_t rfl ?_ | refine gs_f rfl ?_))
          | ((first | (apply sk_c; rfl; rfl)); (simp only [go_sem, Nat.reduceLT, Nat.reduceLeDiff, Nat.reduceEqDiff, Nat.reduceAdd, Nat.reduceSub, Nat.reduceMul, reduceIte, reduceCtorEq, h0, h3, h4, e1, e2, e4, hc] <;> rfl); (first
              | (refine (f20_tr _ _).mono ?_; rintro _ τ2 ⟨rfl, hτ2⟩; rw [hτ2, hb])); refine sk_id ?_))
        exact sk_stop ⟨s.length - (i + 1), by omega, i + 1, rfl, by omega, (run_step hc hb).symm.trans hr, rfl, (by first | (simp only [go_sem, Nat.reduceLT, Nat.reduceLeDiff, Nat.reduceEqDiff, Nat.reduceAdd, Nat.reduceSub, Nat.reduceMul, reduceIte, reduceCtorEq, h0] <;> rfl) | fail), (by first | (simp only [go_sem, Nat.reduceLT, Nat.reduceLeDiff, Nat.reduceEqDiff, Nat.reduceAdd, Nat.reduceSub, Nat.reduceMul, reduceIte, reduceCtorEq] <;> rfl) | fail), (by first | (simp only [go_sem, Nat.reduceLT, Nat.reduceLeDiff, Nat.reduceEqDiff, Nat.reduceAdd, Nat.reduceSub, Nat.reduceMul, reduceIte, reduceCtorEq, h4] <;> rfl) | fail)⟩
    · have e1 : decide ((i : Int) < (s.length : Int)) = false := decide_eq_false (by omega)
      repeat (first
        | refine sk_seq ?_
        | refine sk_region ?_
        | refine sk_ops_nil ?_
        | refine sk_block ?_
        | refine sk_blk ?_
        | refine sk_skip ?_
        | refine sk_exit rfl ?_
        | ((first | (apply sk_r; rfl; rfl) | (apply sk_w; rfl; rfl) | (apply sk_i; rfl) | (apply sk_g; rfl; rfl)); (simp only [go_sem, Nat.reduceLT, Nat.reduceLeDiff, Nat.reduceEqDiff, Nat.reduceAdd, Nat.reduceSub, Nat.reduceMul, reduceIte, reduceCtorEq, h0, h3, h4, e1] <;> rfl); (first | refine sk_id ?_ | refine cs_t ?_ | refine cs_f ?_ | refine gs_t rfl ?_ | refine gs_f rfl ?_)))
      exact sk_end ⟨rfl, (by first | (simp only [go_sem, Nat.reduceLT, Nat.reduceLeDiff, Nat.reduceEqDiff, Nat.reduceAdd, Nat.reduceSub, Nat.reduceMul, reduceIte, reduceCtorEq, h0] <;> rfl) | fail), by rw [← hr, run_end (by omega)]; exact (by first | (simp only [go_sem, Nat.reduceLT, Nat.reduceLeDiff, Nat.reduceEqDiff, Nat.reduceAdd, Nat.reduceSub, Nat.reduceMul, reduceIte, reduceCtorEq, h3] <;> rfl) | fail), (by first | (simp only [go_sem, Nat.reduceLT, Nat.reduceLeDiff, Nat.reduceEqDiff, Nat.reduceAdd, Nat.reduceSub, Nat.reduceMul, reduceIte, reduceCtorEq, h4] <;> rfl) | fail)⟩
  rintro fr τ ⟨hτ, h0, h3, h4⟩
  rw [hτ]
  have hdw : s.dropWhile (isIn [9, 10, 12, 13, 32]) = s.drop a := by
    rw [ha]
    unfold run
    rw [List.drop_zero, Nat.zero_add]
    exact dw_drop _ _
  rw [tr_comm, hdw]
  clear ha hdw
  repeat (first
    | refine sk_seq ?_
    | refine sk_region ?_
    | refine sk_ops_nil ?_
    | refine sk_block ?_
    | refine sk_blk ?_
    | refine sk_skip ?_
    | refine sk_exit rfl ?_
    | ((first | (apply sk_r; rfl; rfl) | (apply sk_w; rfl; rfl) | (apply sk_i; rfl) | (apply sk_g; rfl; rfl)); (simp only [go_sem, Nat.reduceLT, Nat.reduceLeDiff, Nat.reduceEqDiff, Nat.reduceAdd, Nat.reduceSub, Nat.reduceMul, reduceIte, reduceCtorEq, h0, h3, h4] <;> rfl); (first | refine sk_id ?_ | refine cs_t ?_ | refine cs_f ?_ | refine gs_t rfl ?_ | refine gs_f rfl ?_)))
  refine sk_loop (fun m fr σ' => ∃ b, m = b - a ∧ a ≤ b ∧ b ≤ s.length ∧ rt B5 ((s.take b).drop a) = rt B5 (s.drop a) ∧ σ' = σ ∧ fget fr 0 = .str s ∧ fget fr 3 = .int .i64 (a : Nat) ∧ fget fr 4 = .int .i64 (b : Nat)) _
    ⟨s.length, rfl, hal, Nat.le_refl _, by rw [List.take_length], rfl, (by first | (simp only [go_sem, Nat.reduceLT, Nat.reduceLeDiff, Nat.reduceEqDiff, Nat.reduceAdd, Nat.reduceSub, Nat.reduceMul, reduceIte, reduceCtorEq, h0] <;> rfl) | fail), (by first | (simp only [go_sem, Nat.reduceLT, Nat.reduceLeDiff, Nat.reduceEqDiff, Nat.reduceAdd, Nat.reduceSub, Nat.reduceMul, reduceIte, reduceCtorEq, h3] <;> rfl) | fail), (by first | (simp only [go_sem, Nat.reduceLT, Nat.reduceLeDiff, Nat.reduceEqDiff, Nat.reduceAdd, Nat.reduceSub, Nat.reduceMul, reduceIte, reduceCtorEq, h4] <;> rfl) | fail)⟩ ?_
  clear h0 h3 h4 hτ
  rintro _ fr τ ⟨b, rfl, hab, hbl, hr, hτ, h0, h3, h4⟩
  rw [hτ]
  have e2 : (0 : Int) ≤ (a : Int) := by omega
  have e3 : (a : Int) ≤ (b : Int) := by omega
  have e5 : (b : Int) ≤ (s.length : Int) := by omega
  by_cases hlt : a < b
  · obtain ⟨n, rfl⟩ : ∃ n, b = n + 1 := ⟨b - 1, by omega⟩
    obtain ⟨c, hc⟩ := at_some (d := s) (k := n) (by omega)
    have e1 : decide (((n + 1 : Nat) : Int) > (a : Int)) = true := decide_eq_true (by omega)
    have e4 : IntKind.wrap .i64 (((n + 1 : Nat) : Int) - 1) = ((n : Nat) : Int) := by rw [wrap_i64 (by omega) (by omega)]; omega
    have e6 : (0 : Int) ≤ (n : Int) := by omega
    have hlen : ((s.take (n + 1)).drop a).length = (n - a) + 1 := by rw [List.length_drop, List.length_take]; omega
    have hlast : ((s.take (n + 1)).drop a)[n - a]? = some c := by
      rw [List.getElem?_drop, List.getElem?_take, if_pos (by omega), show a + (n - a) = n by omega]; exact hc
    cases hb : isIn [9, 10, 12, 13, 32] c
    · repeat (first
        | refine sk_seq ?_
        | refine sk_region ?_
        | refine sk_ops_nil ?_
        | refine sk_block ?_
        | refine sk_blk ?_
        | refine sk_skip ?_
        | refine sk_exit rfl ?_
        | ((first | (apply sk_r; rfl; rfl) | (apply sk_w; rfl; rfl) | (apply sk_i; rfl) | (apply sk_g; rfl; rfl)); (simp only [go_sem, Nat.reduceLT, Nat.reduceLeDiff, Nat.reduceEqDiff, Nat.reduceAdd, Nat.reduceSub, Nat.reduceMul, reduceIte, reduceCtorEq, h0, h3, h4, e1, e2, e3, e4, e5, e6, hc, and_self] <;> rfl); (first | refine sk_id ?_ | refine cs_t ?_ | refine cs_f ?_ | refine gs_t rfl ?_ | refine gs_f rfl ?_))
        | ((first | (apply sk_c; rfl; rfl)); (simp only [go_sem, Nat.reduceLT, Nat.reduceLeDiff, Nat.reduceEqDiff, Nat.reduceAdd, Nat.reduceSub, Nat.reduceMul, reduceIte, reduceCtorEq, h0, h3, h4, e1, e2, e3, e4, e5, e6, hc, and_self] <;> rfl); (first
            | (refine (f20_tr _ _).mono ?_; rintro _ τ2 ⟨rfl, hτ2⟩; rw [hτ2, hb])); refine sk_id ?_))
      exact sk_ret ⟨_, (by first | (simp only [aRet, Tryd.results25, aResults, aResult, go_sem, Nat.reduceLT, Nat.reduceLeDiff, Nat.reduceEqDiff, Nat.reduceAdd, Nat.reduceSub, Nat.reduceMul, reduceIte, reduceCtorEq] <;> rfl) | fail), by rw [← hr, rt_stop hlen hlast hb], rfl⟩
    · repeat (first
        | refine sk_seq ?_
        | refine sk_region ?_
        | refine sk_ops_nil ?_
        | refine sk_block ?_
        | refine sk_blk ?_
        | refine sk_skip ?_
        | refine sk_exit rfl ?_
        | ((first | (apply sk_r; rfl; rfl) | (apply sk_w; rfl; rfl) | (apply sk_i; rfl) | (apply sk_g; rfl; rfl)); (simp only [go_sem, Nat.reduceLT, Nat.reduceLeDiff, Nat.reduceEqDiff, Nat.reduceAdd, Nat.reduceSub, Nat.reduceMul, reduceIte, reduceCtorEq, h0, h3, h4, e1, e2, e3, e4, e5, e6, hc, and_self] <;> rfl); (first | refine sk_id ?_ | refine cs_t ?_ | refine cs_f ?_ | refine gs_t rfl ?_ | refine gs_f rfl ?_))
        | ((first | (apply sk_c; rfl; rfl)); (simp only [go_sem, Nat.reduceLT, Nat.reduceLeDiff, Nat.reduceEqDiff, Nat.reduceAdd, Nat.reduceSub, Nat.reduceMul, reduceIte, reduceCtorEq, h0, h3, h4, e1, e2, e3, e4, e5, e6, hc, and_self] <;> rfl); (first
            | (refine (f20_tr _ _).mono ?_; rintro _ τ2 ⟨rfl, hτ2⟩; rw [hτ2, hb])); refine sk_id ?_))
      exact sk_stop ⟨n - a, by omega, n, rfl, by omega, by omega, by
        have := rt_step hlen hlast hb
        rw [List.take_drop, show a + (n - a) = n by omega, List.take_take, Nat.min_eq_left (by omega)] at this
        rw [this, hr], rfl, (by first | (simp only [go_sem, Nat.reduceLT, Nat.reduceLeDiff, Nat.reduceEqDiff, Nat.reduceAdd, Nat.reduceSub, Nat.reduceMul, reduceIte, reduceCtorEq, h0] <;> rfl) | fail), (by first | (simp only [go_sem, Nat.reduceLT, Nat.reduceLeDiff, Nat.reduceEqDiff, Nat.reduceAdd, Nat.reduceSub, Nat.reduceMul, reduceIte, reduceCtorEq, h3] <;> rfl) | fail), (by first | (simp only [go_sem, Nat.reduceLT, Nat.reduceLeDiff, Nat.reduceEqDiff, Nat.reduceAdd, Nat.reduceSub, Nat.reduceMul, reduceIte, reduceCtorEq] <;> rfl) | fail)⟩
  · have e1 : decide ((b : Int) > (a : Int)) = false := decide_eq_false (by omega)
    have : b = a := by omega
    subst this
    repeat (first
      | refine sk_seq ?_
      | refine sk_region ?_
      | refine sk_ops_nil ?_
      | refine sk_block ?_
      | refine sk_blk ?_
      | refine sk_skip ?_
      | refine sk_exit rfl ?_
      | ((first | (apply sk_r; rfl; rfl) | (apply sk_w; rfl; rfl) | (apply sk_i; rfl) | (apply sk_g; rfl; rfl)); (simp only [go_sem, Nat.reduceLT, Nat.reduceLeDiff, Nat.reduceEqDiff, Nat.reduceAdd, Nat.reduceSub, Nat.reduceMul, reduceIte, reduceCtorEq, h0, h3, h4, e1, e2, e3, e5, and_self] <;> rfl); (first | refine sk_id ?_ | refine cs_t ?_ | refine cs_f ?_ | refine gs_t rfl ?_ | refine gs_f rfl ?_)))
    exact sk_ret ⟨_, (by first | (simp only [aRet, Tryd.results25, aResults, aResult, go_sem, Nat.reduceLT, Nat.reduceLeDiff, Nat.reduceEqDiff, Nat.reduceAdd, Nat.reduceSub, Nat.reduceMul, reduceIte, reduceCtorEq] <;> rfl) | fail), by rw [← hr, List.drop_eq_nil_of_le (by rw [List.length_take]; omega)]; rfl, rfl⟩
end Go.Proofs.YtophnlmdcidolaaDoor
namespace Go.Am
theorem strs_get {l : List (List Nat)} {i : Nat} {k : List Nat} (h : l[i]? = some k) : (l.map AV.str)[i]? = some (.str k) := by rw [List.getElem?_map, h]; rfl
end Go.Am
namespace Go.Proofs.YtophnlmdcidolaaDoor
open Go Go.Am
set_option maxHeartbeats 8000000
set_option maxRecDepth 100000
theorem wr_U (fr : PT AV) (σ : AHeap) : wr Tryd.prog (aeval fr) σ (.buildSlice 49 6 #[(0, .const (.string { data := #[117, 116, 102, 45, 56] })), (1, .const (.string { data := #[117, 116, 102, 56] })), (2, .const (.string { data := #[117, 110, 105, 99, 111, 100, 101, 45, 49, 45, 49, 45, 117, 116, 102, 45, 56] })), (3, .const (.string { data := #[117, 116, 102, 45, 49, 54] })), (4, .const (.string { data := #[117, 116, 102, 45, 49, 54, 108, 101] })), (5, .const (.string { data := #[117, 116, 102, 45, 49, 54, 98, 101] }))]) = some (.slice σ.next 0 6 6 true 1, σ.push (.cells (utfs.map AV.str) false 0 [])) := by kernel_rfl
theorem wr_W (fr : PT AV) (σ : AHeap) : wr Tryd.prog (aeval fr) σ (.buildSlice 49 7 #[(0, .const (.string { data := #[119, 105, 110, 100, 111, 119, 115, 45, 49, 50, 53, 50] })), (1, .const (.string { data := #[99, 112, 49, 50, 53, 50] })), (2, .const (.string { data := #[108, 97, 116, 105, 110, 49] })), (3, .const (.string { data := #[108, 49] })), (4, .const (.string { data := #[105, 115, 111, 45, 56, 56, 53, 57, 45, 49] })), (5, .const (.string { data := #[97, 115, 99, 105, 105] })), (6, .const (.string { data := #[117, 115, 45, 97, 115, 99, 105, 105] }))]) = some (.slice σ.next 0 7 7 true 1, σ.push (.cells (wins.map AV.str) false 0 [])) := by kernel_rfl
theorem f10_tr (s : List Nat) (hd : ∀ c ∈ s, c < 256) (hl : s.length ≤ 140737488355327) (σ : AHeap) : Tr Tryd.prog 10 [.str s] σ fun v σ' => v = .int .i64 (labelOf ((Am.tr B5 s).map low) : Nat) ∧ σ' = σ := by
  refine Tr.wf fun hW => Tr.pure ?_
  refine sk_body (m := 36) Tryd.func10 rfl (by decide) rfl ?_
  have s25 := fun σ => f25_tr s hd hl σ
  have s24 := fun σ => f24_tr (Am.tr B5 s) (fun c h => hd c (tr_mem h)) (Nat.le_trans (tr_len _ _) hl) σ
  generalize (Am.tr B5 s).map low = m at *
  have k1 := keep_push (σ := σ) (σ' := σ) (x := .cells (utfs.map AV.str) false 0 []) hW (Nat.le_refl _) fun _ _ h => h
  have k2 := keep_push (σ := σ) (σ' := σ.push (.cells (utfs.map AV.str) false 0 [])) (x := .cells (wins.map AV.str) false 0 []) hW (by rw [next_push]; omega) k1
  repeat (first
    | (apply sk_w; rfl; rfl; exact wr_U _ _)
    | refine sk_seq ?_
    | refine sk_region ?_
    | refine sk_ops_nil ?_
    | refine sk_block ?_
    | refine sk_blk ?_
    | refine sk_skip ?_
    | refine sk_exit rfl ?_
    | ((first | (apply sk_r; rfl; rfl) | (apply sk_w; rfl; rfl) | (apply sk_i; rfl) | (apply sk_g; rfl; rfl)); (simp only [go_sem, Nat.reduceLT, Nat.reduceLeDiff, Nat.reduceEqDiff, Nat.reduceAdd, Nat.reduceSub, Nat.reduceMul, reduceIte, reduceCtorEq] <;> rfl); (first | refine sk_id ?_ | refine cs_t ?_ | refine cs_f ?_ | refine gs_t rfl ?_ | refine gs_f rfl ?_))
    | ((first | (apply sk_c; rfl; rfl)); (simp only [go_sem, Nat.reduceLT, Nat.reduceLeDiff, Nat.reduceEqDiff, Nat.reduceAdd, Nat.reduceSub, Nat.reduceMul, reduceIte, reduceCtorEq] <;> rfl); (first
        | (refine (s25 _).mono ?_; rintro _ τ ⟨rfl, hτ⟩; rw [hτ])
        | (refine (s24 _).mono ?_; rintro _ τ ⟨rfl, hτ⟩; rw [hτ])); refine sk_id ?_))
  refine sk_loop (fun mm fr σ' => ∃ i, mm = 6 - i ∧ i ≤ 6 ∧ (∀ k ∈ utfs.take i, m ≠ k) ∧ σ' = σ.push (.cells (utfs.map AV.str) false 0 []) ∧ fget fr 0 = .str m ∧ fget fr 3 = .slice σ.next 0 6 6 true 1 ∧ fget fr 4 = .int .i64 (i : Nat)) _
    ⟨0, rfl, by omega, by simp, rfl, (by first | (simp only [go_sem, Nat.reduceLT, Nat.reduceLeDiff, Nat.reduceEqDiff, Nat.reduceAdd, Nat.reduceSub, Nat.reduceMul, reduceIte, reduceCtorEq] <;> rfl) | fail), (by first | (simp only [go_sem, Nat.reduceLT, Nat.reduceLeDiff, Nat.reduceEqDiff, Nat.reduceAdd, Nat.reduceSub, Nat.reduceMul, reduceIte, reduceCtorEq] <;> rfl) | fail), (by first | (simp only [go_sem, Nat.reduceLT, Nat.reduceLeDiff, Nat.reduceEqDiff, Nat.reduceAdd, Nat.reduceSub, Nat.reduceMul, reduceIte, reduceCtorEq] <;> rfl) | fail)⟩ ?_
  rintro _ fr σ' ⟨i, rfl, hi, hno, hσ, h0, h3, h4⟩
  rw [hσ]
  have gU := get_push_same σ (.cells (utfs.map AV.str) false 0 [])
  by_cases hil : i < 6
  · obtain ⟨k, hk⟩ : ∃ k, utfs[i]? = some k := ⟨_, List.getElem?_eq_getElem hil⟩
    have e1 : decide ((i : Int) < ((6 : Nat) : Int)) = true := decide_eq_true (by omega)
    have e2 : (0 : Int) ≤ (i : Int) := by omega
    have e3 : (i : Int) < ((6 : Nat) : Int) := by omega
    have e4 : IntKind.wrap .i64 ((i : Int) + 1) = ((i + 1 : Nat) : Int) := wrap_i64 (by omega) (by omega)
    have e5 := strs_get hk
    by_cases hm : m = k
    · have e6 : beqL m k = true := by rw [beqL_eq]; exact decide_eq_true hm
      repeat (first
        | refine sk_seq ?_
        | refine sk_region ?_
        | refine sk_ops_nil ?_
        | refine sk_block ?_
        | refine sk_blk ?_
        | refine sk_skip ?_
        | refine sk_exit rfl ?_
        | ((first | (apply sk_r; rfl; rfl) | (apply sk_w; rfl; rfl) | (apply sk_i; rfl) | (apply sk_g; rfl; rfl)); (simp only [go_sem, Nat.reduceLT, Nat.reduceLeDiff, Nat.reduceEqDiff, Nat.reduceAdd, Nat.reduceSub, Nat.reduceMul, reduceIte, reduceCtorEq, h0, h3, h4, gU, e1, e2, e3, e4, e5, e6, and_self] <;> rfl); (first | refine sk_id ?_ | refine cs_t ?_ | refine cs_f ?_ | refine gs_t rfl ?_ | refine gs_f rfl ?_)))
      have hu : m ∈ utfs := by rw [hm]; exact List.mem_of_getElem? hk
      exact sk_ret ⟨_, (by first | (simp only [aRet, Tryd.results10, aResults, aResult, go_sem, Nat.reduceLT, Nat.reduceLeDiff, Nat.reduceEqDiff, Nat.reduceAdd, Nat.reduceSub, Nat.reduceMul, reduceIte, reduceCtorEq] <;> rfl) | fail), rfl, k1, by unfold labelOf; rw [if_pos hu]; rfl, rfl⟩
    · have e6 : beqL m k = false := by rw [beqL_eq]; exact decide_eq_false hm
      repeat (first
        | refine sk_seq ?_
        | refine sk_region ?_
        | refine sk_ops_nil ?_
        | refine sk_block ?_
        | refine sk_blk ?_
        | refine sk_skip ?_
        | refine sk_exit rfl ?_
        | ((first | (apply sk_r; rfl; rfl) | (apply sk_w; rfl; rfl) | (apply sk_i; rfl) | (apply sk_g; rfl; rfl)); (simp only [go_sem, Nat.reduceLT, Nat.reduceLeDiff, Nat.reduceEqDiff, Nat.reduceAdd, Nat.reduceSub, Nat.reduceMul, reduceIte, reduceCtorEq, h0, h3, h4, gU, e1, e2, e3, e4, e5, e6, and_self] <;> rfl); (first | refine sk_id ?_ | refine cs_t ?_ | refine cs_f ?_ | refine gs_t rfl ?_ | refine gs_f rfl ?_)))
      exact sk_stop ⟨6 - (i + 1), by omega, i + 1, rfl, by omega, fun x hx => by
        rw [List.take_succ, hk] at hx
        rcases List.mem_append.1 hx with hx | hx
        · exact hno x hx
        · simp at hx; subst hx; exact hm, rfl, (by first | (simp only [go_sem, Nat.reduceLT, Nat.reduceLeDiff, Nat.reduceEqDiff, Nat.reduceAdd, Nat.reduceSub, Nat.reduceMul, reduceIte, reduceCtorEq, h0] <;> rfl) | fail), (by first | (simp only [go_sem, Nat.reduceLT, Nat.reduceLeDiff, Nat.reduceEqDiff, Nat.reduceAdd, Nat.reduceSub, Nat.reduceMul, reduceIte, reduceCtorEq, h3] <;> rfl) | fail), (by first | (simp only [go_sem, Nat.reduceLT, Nat.reduceLeDiff, Nat.reduceEqDiff, Nat.reduceAdd, Nat.reduceSub, Nat.reduceMul, reduceIte, reduceCtorEq] <;> rfl) | fail)⟩
  · have hu : m ∉ utfs := fun hx => hno m (by rw [List.take_of_length_le (by show 6 ≤ i; omega)]; exact hx) rfl
    have e1 : decide ((i : Int) < ((6 : Nat) : Int)) = false := decide_eq_false (by omega)
    repeat (first
      | (apply sk_w; rfl; rfl; exact wr_W _ _)
      | refine sk_seq ?_
      | refine sk_region ?_
      | refine sk_ops_nil ?_
      | refine sk_block ?_
      | refine sk_blk ?_
      | refine sk_skip ?_
      | refine sk_exit rfl ?_
      | ((first | (apply sk_r; rfl; rfl) | (apply sk_w; rfl; rfl) | (apply sk_i; rfl) | (apply sk_g; rfl; rfl)); (simp only [go_sem, Nat.reduceLT, Nat.reduceLeDiff, Nat.reduceEqDiff, Nat.reduceAdd, Nat.reduceSub, Nat.reduceMul, reduceIte, reduceCtorEq, h0, h3, h4, e1] <;> rfl); (first | refine sk_id ?_ | refine cs_t ?_ | refine cs_f ?_ | refine gs_t rfl ?_ | refine gs_f rfl ?_)))
    clear hno h3 h4 e1 hσ
    refine sk_loop (fun mm fr σ' => ∃ i, mm = 7 - i ∧ i ≤ 7 ∧ (∀ k ∈ wins.take i, m ≠ k) ∧ σ' = (σ.push (.cells (utfs.map AV.str) false 0 [])).push (.cells (wins.map AV.str) false 0 []) ∧ fget fr 0 = .str m ∧ fget fr 5 = .slice (σ.next + 1) 0 7 7 true 1 ∧ fget fr 6 = .int .i64 (i : Nat)) _
      ⟨0, rfl, by omega, by simp, rfl, (by first | (simp only [go_sem, Nat.reduceLT, Nat.reduceLeDiff, Nat.reduceEqDiff, Nat.reduceAdd, Nat.reduceSub, Nat.reduceMul, reduceIte, reduceCtorEq, h0] <;> rfl) | fail), (by first | (simp only [go_sem, Nat.reduceLT, Nat.reduceLeDiff, Nat.reduceEqDiff, Nat.reduceAdd, Nat.reduceSub, Nat.reduceMul, reduceIte, reduceCtorEq] <;> rfl) | fail), (by first | (simp only [go_sem, Nat.reduceLT, Nat.reduceLeDiff, Nat.reduceEqDiff, Nat.reduceAdd, Nat.reduceSub, Nat.reduceMul, reduceIte, reduceCtorEq] <;> rfl) | fail)⟩ ?_
    clear h0
    rintro _ fr σ' ⟨i, rfl, hi, hno, hσ, h0, h3, h4⟩
    rw [hσ]
    have gW : ((σ.push (.cells (utfs.map AV.str) false 0 [])).push (.cells (wins.map AV.str) false 0 [])).m.get (σ.next + 1) = some (.cells (wins.map AV.str) false 0 []) := get_push_same (σ.push _) _
    by_cases hil : i < 7
    · obtain ⟨k, hk⟩ : ∃ k, wins[i]? = some k := ⟨_, List.getElem?_eq_getElem hil⟩
      have e1 : decide ((i : Int) < ((7 : Nat) : Int)) = true := decide_eq_true (by omega)
      have e2 : (0 : Int) ≤ (i : Int) := by omega
      have e3 : (i : Int) < ((7 : Nat) : Int) := by omega
      have e4 : IntKind.wrap .i64 ((i : Int) + 1) = ((i + 1 : Nat) : Int) := wrap_i64 (by omega) (by omega)
      have e5 := strs_get hk
      by_cases hm : m = k
      · have e6 : beqL m k = true := by rw [beqL_eq]; exact decide_eq_true hm
        repeat (first
          | refine sk_seq ?_
          | refine sk_region ?_
          | refine sk_ops_nil ?_
          | refine sk_block ?_
          | refine sk_blk ?_
          | refine sk_skip ?_
          | refine sk_exit rfl ?_
          | ((first | (apply sk_r; rfl; rfl) | (apply sk_w; rfl; rfl) | (apply sk_i; rfl) | (apply sk_g; rfl; rfl)); (simp only [go_sem, Nat.reduceLT, Nat.reduceLeDiff, Nat.reduceEqDiff, Nat.reduceAdd, Nat.reduceSub, Nat.reduceMul, reduceIte, reduceCtorEq, h0, h3, h4, gW, e1, e2, e3, e4, e5, e6, and_self] <;> rfl); (first | refine sk_id ?_ | refine cs_t ?_ | refine cs_f ?_ | refine gs_t rfl ?_ | refine gs_f rfl ?_)))
        have hw : m ∈ wins := by rw [hm]; exact List.mem_of_getElem? hk
        exact sk_ret ⟨_, (by first | (simp only [aRet, Tryd.results10, aResults, aResult, go_sem, Nat.reduceLT, Nat.reduceLeDiff, Nat.reduceEqDiff, Nat.reduceAdd, Nat.reduceSub, Nat.reduceMul, reduceIte, reduceCtorEq] <;> rfl) | fail), rfl, k2, by unfold labelOf; rw [if_neg hu, if_pos hw]; rfl, rfl⟩
      · have e6 : beqL m k = false := by rw [beqL_eq]; exact decide_eq_false hm
        repeat (first
          | refine sk_seq ?_
          | refine sk_region ?_
          | refine sk_ops_nil ?_
          | refine sk_block ?_
          | refine sk_blk ?_
          | refine sk_skip ?_
          | refine sk_exit rfl ?_
          | ((first | (apply sk_r; rfl; rfl) | (apply sk_w; rfl; rfl) | (apply sk_i; rfl) | (apply sk_g; rfl; rfl)); (simp only [go_sem, Nat.reduceLT, Nat.reduceLeDiff, Nat.reduceEqDiff, Nat.reduceAdd, Nat.reduceSub, Nat.reduceMul, reduceIte, reduceCtorEq, h0, h3, h4, gW, e1, e2, e3, e4, e5, e6, and_self] <;> rfl); (first | refine sk_id ?_ | refine cs_t ?_ | refine cs_f ?_ | refine gs_t rfl ?_ | refine gs_f rfl ?_)))
        exact sk_stop ⟨7 - (i + 1), by omega, i + 1, rfl, by omega, fun x hx => by
          rw [List.take_succ, hk] at hx
          rcases List.mem_append.1 hx with hx | hx
          · exact hno x hx
          · simp at hx; subst hx; exact hm, rfl, (by first | (simp only [go_sem, Nat.reduceLT, Nat.reduceLeDiff, Nat.reduceEqDiff, Nat.reduceAdd, Nat.reduceSub, Nat.reduceMul, reduceIte, reduceCtorEq, h0] <;> rfl) | fail), (by first | (simp only [go_sem, Nat.reduceLT, Nat.reduceLeDiff, Nat.reduceEqDiff, Nat.reduceAdd, Nat.reduceSub, Nat.reduceMul, reduceIte, reduceCtorEq, h3] <;> rfl) | fail), (by first | (simp only [go_sem, Nat.reduceLT, Nat.reduceLeDiff, Nat.reduceEqDiff, Nat.reduceAdd, Nat.reduceSub, Nat.reduceMul, reduceIte, reduceCtorEq] <;> rfl) | fail)⟩
    · have hw : m ∉ wins := fun hx => hno m (by rw [List.take_of_length_le (by show 7 ≤ i; omega)]; exact hx) rfl
      have e1 : decide ((i : Int) < ((7 : Nat) : Int)) = false := decide_eq_false (by omega)
      repeat (first
        | refine sk_seq ?_
        | refine sk_region ?_
        | refine sk_ops_nil ?_
        | refine sk_block ?_
        | refine sk_blk ?_
        | refine sk_skip ?_
        | refine sk_exit rfl ?_
        | ((first | (apply sk_r; rfl; rfl) | (apply sk_w; rfl; rfl) | (apply sk_i; rfl) | (apply sk_g; rfl; rfl)); (simp only [go_sem, Nat.reduceLT, Nat.reduceLeDiff, Nat.reduceEqDiff, Nat.reduceAdd, Nat.reduceSub, Nat.reduceMul, reduceIte, reduceCtorEq, h0, h3, h4, e1] <;> rfl); (first | refine sk_id ?_ | refine cs_t ?_ | refine cs_f ?_ | refine gs_t rfl ?_ | refine gs_f rfl ?_)))
      exact sk_ret ⟨_, (by first | (simp only [aRet, Tryd.results10, aResults, aResult, go_sem, Nat.reduceLT, Nat.reduceLeDiff, Nat.reduceEqDiff, Nat.reduceAdd, Nat.reduceSub, Nat.reduceMul, reduceIte, reduceCtorEq] <;> rfl) | fail), rfl, k2, by unfold labelOf; rw [if_neg hu, if_neg hw]; rfl, rfl⟩
end Go.Proofs.YtophnlmdcidolaaDoor
