import Derived.Test.YtophnlmdcidolaaDoorG
import Derived.Test.YtophnlmdcidolaaDoorK
import Derived.Test.YtophnlmdcidolaaDoorS
import Derived.Test.YtophnlmdcidolaaDoorP1
set_option linter.all false
namespace Go.Am
/-- a scalar beyond 7F, as bytes -/
theorem enc_high {r : Nat} (h : 128 ≤ r) : ∃ l z, bytesOf (Utf8.encode (r : Int)) = l ++ [z] ∧ l.length ≤ 3 ∧ 128 ≤ z ∧ z < 256 := by
  unfold Utf8.encode
  have hc : ∃ c : Nat, (if Utf8.valid (r : Int) then ((r : Int)).toNat else Utf8.runeError) = c ∧ 128 ≤ c := by
    split
    · exact ⟨r, by simp, h⟩
    · exact ⟨_, rfl, by decide⟩
  obtain ⟨c, hc, h8⟩ := hc
  simp only [hc]
  rw [if_neg (show ¬ c < 0x80 by omega)]
  have hz : ∀ x : Nat, (UInt8.ofNat (0x80 + x % 64)).toNat = 0x80 + x % 64 := fun x => by
    rw [UInt8.toNat_ofNat']; exact Nat.mod_eq_of_lt (by omega)
  split
  · exact ⟨[(UInt8.ofNat (0xC0 + c / 64)).toNat], _, rfl, by simp, by rw [hz]; omega, by rw [hz]; omega⟩
  · split
    · exact ⟨[(UInt8.ofNat (0xE0 + c / 4096)).toNat, (UInt8.ofNat (0x80 + c / 64 % 64)).toNat], _, rfl, by simp, by rw [hz]; omega, by rw [hz]; omega⟩
    · exact ⟨[(UInt8.ofNat (0xF0 + c / 262144)).toNat, (UInt8.ofNat (0x80 + c / 4096 % 64)).toNat, (UInt8.ofNat (0x80 + c / 64 % 64)).toNat], _, rfl, by simp, by rw [hz]; omega, by rw [hz]; omega⟩
theorem wrap_u8 {c : Nat} (h : c < 256) : IntKind.wrap .u8 (c : Int) = (c : Int) := by
  unfold IntKind.wrap
  simp only [IntKind.bits, IntKind.signed]
  have : ((2:Int)^8) = 256 := by decide
  simp only [this, Bool.false_and]
  split
  · rename_i h; simp at h
  · omega
theorem idx_none {S : List Nat} {c : Nat} (h : c ∉ S) : idx S c = -1 := by
  induction S with
  | nil => rfl
  | cons x S ih =>
    unfold idx
    rw [if_neg (fun e => h (by simp [e])), ih (fun k => h (by simp [k])), if_pos rfl]
end Go.Am
namespace Go.Proofs.YtophnlmdcidolaaDoor
open Go Go.Am
set_option maxHeartbeats 8000000
set_option maxRecDepth 100000
theorem f94_tr (r : Nat) (σ : AHeap) : Tr Tryd.prog 94 [.int .i32 (r : Nat)] σ fun v σ' => (∃ b, v = .bool b) ∧ σ' = σ := by
  refine sk_body (m := 17) Tryd.func94 rfl (by decide) rfl ?_
  have e0 : decide ((0 : Int) ≤ (r : Int)) = true := decide_eq_true (by omega)
  by_cases h1 : r < 55296
  · have e1 : decide ((r : Int) < 55296) = true := decide_eq_true (by omega)
    repeat (first
      | refine sk_seq ?_
      | refine sk_region ?_
      | refine sk_ops_nil ?_
      | refine sk_block ?_
      | refine sk_blk ?_
      | refine sk_skip ?_
      | refine sk_exit rfl ?_
      | ((first | (apply sk_r; rfl; rfl) | (apply sk_w; rfl; rfl) | (apply sk_i; rfl) | (apply sk_g; rfl; rfl)); (simp only [go_sem, Nat.reduceLT, Nat.reduceLeDiff, Nat.reduceEqDiff, Nat.reduceAdd, Nat.reduceSub, Nat.reduceMul, reduceIte, reduceCtorEq, e0, e1] <;> rfl); (first | refine sk_id ?_ | refine cs_t ?_ | refine cs_f ?_ | refine gs_t rfl ?_ | refine gs_f rfl ?_)))
    exact sk_ret ⟨_, (by first | (simp only [aRet, Tryd.results94, aResults, aResult, go_sem, Nat.reduceLT, Nat.reduceLeDiff, Nat.reduceEqDiff, Nat.reduceAdd, Nat.reduceSub, Nat.reduceMul, reduceIte, reduceCtorEq] <;> rfl) | fail), ⟨_, rfl⟩, rfl⟩
  · have e1 : decide ((r : Int) < 55296) = false := decide_eq_false (by omega)
    by_cases h2 : 57343 < r
    · have e2 : decide ((57343 : Int) < (r : Int)) = true := decide_eq_true (by omega)
      by_cases h3 : r ≤ 1114111
      · have e3 : decide ((r : Int) ≤ 1114111) = true := decide_eq_true (by omega)
        repeat (first
          | refine sk_seq ?_
          | refine sk_region ?_
          | refine sk_ops_nil ?_
          | refine sk_block ?_
          | refine sk_blk ?_
          | refine sk_skip ?_
          | refine sk_exit rfl ?_
          | ((first | (apply sk_r; rfl; rfl) | (apply sk_w; rfl; rfl) | (apply sk_i; rfl) | (apply sk_g; rfl; rfl)); (simp only [go_sem, Nat.reduceLT, Nat.reduceLeDiff, Nat.reduceEqDiff, Nat.reduceAdd, Nat.reduceSub, Nat.reduceMul, reduceIte, reduceCtorEq, e0, e1, e2, e3] <;> rfl); (first | refine sk_id ?_ | refine cs_t ?_ | refine cs_f ?_ | refine gs_t rfl ?_ | refine gs_f rfl ?_)))
        exact sk_ret ⟨_, (by first | (simp only [aRet, Tryd.results94, aResults, aResult, go_sem, Nat.reduceLT, Nat.reduceLeDiff, Nat.reduceEqDiff, Nat.reduceAdd, Nat.reduceSub, Nat.reduceMul, reduceIte, reduceCtorEq] <;> rfl) | fail), ⟨_, rfl⟩, rfl⟩
      · have e3 : decide ((r : Int) ≤ 1114111) = false := decide_eq_false (by omega)
        repeat (first
          | refine sk_seq ?_
          | refine sk_region ?_
          | refine sk_ops_nil ?_
          | refine sk_block ?_
          | refine sk_blk ?_
          | refine sk_skip ?_
          | refine sk_exit rfl ?_
          | ((first | (apply sk_r; rfl; rfl) | (apply sk_w; rfl; rfl) | (apply sk_i; rfl) | (apply sk_g; rfl; rfl)); (simp only [go_sem, Nat.reduceLT, Nat.reduceLeDiff, Nat.reduceEqDiff, Nat.reduceAdd, Nat.reduceSub, Nat.reduceMul, reduceIte, reduceCtorEq, e0, e1, e2, e3] <;> rfl); (first | refine sk_id ?_ | refine cs_t ?_ | refine cs_f ?_ | refine gs_t rfl ?_ | refine gs_f rfl ?_)))
        exact sk_ret ⟨_, (by first | (simp only [aRet, Tryd.results94, aResults, aResult, go_sem, Nat.reduceLT, Nat.reduceLeDiff, Nat.reduceEqDiff, Nat.reduceAdd, Nat.reduceSub, Nat.reduceMul, reduceIte, reduceCtorEq] <;> rfl) | fail), ⟨_, rfl⟩, rfl⟩
    · have e2 : decide ((57343 : Int) < (r : Int)) = false := decide_eq_false (by omega)
      repeat (first
        | refine sk_seq ?_
        | refine sk_region ?_
        | refine sk_ops_nil ?_
        | refine sk_block ?_
        | refine sk_blk ?_
        | refine sk_skip ?_
        | refine sk_exit rfl ?_
        | ((first | (apply sk_r; rfl; rfl) | (apply sk_w; rfl; rfl) | (apply sk_i; rfl) | (apply sk_g; rfl; rfl)); (simp only [go_sem, Nat.reduceLT, Nat.reduceLeDiff, Nat.reduceEqDiff, Nat.reduceAdd, Nat.reduceSub, Nat.reduceMul, reduceIte, reduceCtorEq, e0, e1, e2] <;> rfl); (first | refine sk_id ?_ | refine cs_t ?_ | refine cs_f ?_ | refine gs_t rfl ?_ | refine gs_f rfl ?_)))
      exact sk_ret ⟨_, (by first | (simp only [aRet, Tryd.results94, aResults, aResult, go_sem, Nat.reduceLT, Nat.reduceLeDiff, Nat.reduceEqDiff, Nat.reduceAdd, Nat.reduceSub, Nat.reduceMul, reduceIte, reduceCtorEq] <;> rfl) | fail), ⟨_, rfl⟩, rfl⟩

theorem f86_low (S : List Nat) (r : Nat) (h : r < 128) (σ : AHeap) : Tr Tryd.prog 86 [.str S, .int .i32 (r : Nat)] σ fun v σ' => v = .int .i64 (idx S r) ∧ σ' = σ := by
  refine sk_body (m := 187) Tryd.func86 rfl (by decide) rfl ?_
  have e0 : decide ((0 : Int) ≤ (r : Int)) = true := decide_eq_true (by omega)
  have e1 : decide ((r : Int) < 128) = true := decide_eq_true (by omega)
  have e2 : IntKind.wrap .u8 (r : Int) = (r : Int) := wrap_u8 (by omega)
  repeat (first
    | refine sk_seq ?_
    | refine sk_region ?_
    | refine sk_ops_nil ?_
    | refine sk_draw_nil ?_
    | refine sk_block ?_
    | refine sk_blk ?_
    | refine sk_skip ?_
    | refine sk_exit rfl ?_
    | refine sk_draw (id := 6) [0, 1, 2, 3, 4, 5, 6] mixed (by kernel_rfl) ?_
    | refine sk_draw (id := 7) [0, 1, 2, 3, 4, 5, 6, 7, 8] mixed (by kernel_rfl) ?_
    | refine sk_draw (id := 14) [0, 1, 2, 3, 4, 5, 6, 7, 8, 9, 10] mixed (by kernel_rfl) ?_
    | refine sk_draw (id := 31) [0, 1, 2, 3, 4, 5, 6, 7, 8, 9, 10] mixed (by kernel_rfl) ?_
    | ((first | (apply sk_r; rfl; rfl) | (apply sk_w; rfl; rfl) | (apply sk_i; rfl) | (apply sk_g; rfl; rfl) | (apply sk_dr; rfl; rfl; rfl) | (apply sk_dg; rfl; rfl; rfl; rfl; rfl) | apply drd_i | (apply sk_dnr (i := 8) (fl := []); rfl; rfl; decide +kernel; rfl; rfl) | (apply sk_dnw (i := 8) (fl := []); rfl; rfl; decide +kernel; rfl; rfl)); (simp only [go_sem, Nat.reduceLT, Nat.reduceLeDiff, Nat.reduceEqDiff, Nat.reduceAdd, Nat.reduceSub, Nat.reduceMul, reduceIte, reduceCtorEq, e0, e1, e2] <;> rfl); (first | refine sk_id ?_ | refine cs_t ?_ | refine cs_f ?_ | refine gs_t rfl ?_ | refine gs_f rfl ?_ | ((repeat (first | exact trivial | ((first | (apply redos_r; rfl; rfl) | (apply redos_g; rfl; rfl; rfl; rfl)); (simp only [go_sem, Nat.reduceLT, Nat.reduceLeDiff, Nat.reduceEqDiff, Nat.reduceAdd, Nat.reduceSub, Nat.reduceMul, reduceIte, reduceCtorEq, e0, e1, e2] <;> rfl)) | (apply redos_s; rfl; rfl; rfl; (simp only [go_sem, Nat.reduceLT, Nat.reduceLeDiff, Nat.reduceEqDiff, Nat.reduceAdd, Nat.reduceSub, Nat.reduceMul, reduceIte, reduceCtorEq, e0, e1, e2] <;> rfl)))); refine sk_id ?_)))
    | ((first | (apply sk_c; rfl; rfl) | (apply sk_dnc (i := 7) (fl := []); rfl; rfl; decide +kernel; rfl)); (simp only [go_sem, Nat.reduceLT, Nat.reduceLeDiff, Nat.reduceEqDiff, Nat.reduceAdd, Nat.reduceSub, Nat.reduceMul, reduceIte, reduceCtorEq, e0, e1, e2] <;> rfl); (first
        | (refine (f48_tr S r (by omega) _).mono ?_; rintro _ τ2 ⟨rfl, hτ2⟩; rw [hτ2])); (first | refine sk_id ?_ | (refine ⟨?_, ?_⟩; (repeat (first | exact trivial | ((first | (apply redos_r; rfl; rfl) | (apply redos_g; rfl; rfl; rfl; rfl)); (simp only [go_sem, Nat.reduceLT, Nat.reduceLeDiff, Nat.reduceEqDiff, Nat.reduceAdd, Nat.reduceSub, Nat.reduceMul, reduceIte, reduceCtorEq, e0, e1, e2] <;> rfl)) | (apply redos_s; rfl; rfl; rfl; (simp only [go_sem, Nat.reduceLT, Nat.reduceLeDiff, Nat.reduceEqDiff, Nat.reduceAdd, Nat.reduceSub, Nat.reduceMul, reduceIte, reduceCtorEq, e0, e1, e2] <;> rfl)))); refine sk_id ?_))))
  exact sk_ret ⟨_, (by first | (simp only [aRet, Tryd.results86, aResults, aResult, go_sem, Nat.reduceLT, Nat.reduceLeDiff, Nat.reduceEqDiff, Nat.reduceAdd, Nat.reduceSub, Nat.reduceMul, reduceIte, reduceCtorEq] <;> rfl) | fail), rfl, rfl⟩

theorem f86_high (S : List Nat) (hS : ∀ c ∈ S, c < 128) (hn : S.length ≤ 1000) (r : Nat) (h : 128 ≤ r) (σ : AHeap) : Tr Tryd.prog 86 [.str S, .int .i32 (r : Nat)] σ fun v σ' => v = .int .i64 (-1) ∧ σ' = σ := by
  refine Tr.wf fun hW => Tr.pure ?_
  refine sk_body (m := 187) Tryd.func86 rfl (by decide) rfl ?_
  have e0 : decide ((0 : Int) ≤ (r : Int)) = true := decide_eq_true (by omega)
  have e1 : decide ((r : Int) < 128) = false := decide_eq_false (by omega)
  by_cases hr : r = 65533
  · have e2 : ((r : Int) == 65533) = true := by simp [hr]
    repeat (first
      | refine sk_seq ?_
      | refine sk_region ?_
      | refine sk_ops_nil ?_
      | refine sk_draw_nil ?_
      | refine sk_block ?_
      | refine sk_blk ?_
      | refine sk_skip ?_
      | refine sk_exit rfl ?_
      | refine sk_draw (id := 6) [0, 1, 2, 3, 4, 5, 6] mixed (by kernel_rfl) ?_
      | refine sk_draw (id := 7) [0, 1, 2, 3, 4, 5, 6, 7, 8] mixed (by kernel_rfl) ?_
      | refine sk_draw (id := 14) [0, 1, 2, 3, 4, 5, 6, 7, 8, 9, 10] mixed (by kernel_rfl) ?_
      | refine sk_draw (id := 31) [0, 1, 2, 3, 4, 5, 6, 7, 8, 9, 10] mixed (by kernel_rfl) ?_
      | ((first | (apply sk_r; rfl; rfl) | (apply sk_w; rfl; rfl) | (apply sk_i; rfl) | (apply sk_g; rfl; rfl) | (apply sk_dr; rfl; rfl; rfl) | (apply sk_dg; rfl; rfl; rfl; rfl; rfl) | apply drd_i | (apply sk_dnr (i := 8) (fl := []); rfl; rfl; decide +kernel; rfl; rfl) | (apply sk_dnw (i := 8) (fl := []); rfl; rfl; decide +kernel; rfl; rfl)); (simp only [go_sem, Nat.reduceLT, Nat.reduceLeDiff, Nat.reduceEqDiff, Nat.reduceAdd, Nat.reduceSub, Nat.reduceMul, reduceIte, reduceCtorEq, e0, e1, e2] <;> rfl); (first | refine sk_id ?_ | refine cs_t ?_ | refine cs_f ?_ | refine gs_t rfl ?_ | refine gs_f rfl ?_ | ((repeat (first | exact trivial | ((first | (apply redos_r; rfl; rfl) | (apply redos_g; rfl; rfl; rfl; rfl)); (simp only [go_sem, Nat.reduceLT, Nat.reduceLeDiff, Nat.reduceEqDiff, Nat.reduceAdd, Nat.reduceSub, Nat.reduceMul, reduceIte, reduceCtorEq, e0, e1, e2] <;> rfl)) | (apply redos_s; rfl; rfl; rfl; (simp only [go_sem, Nat.reduceLT, Nat.reduceLeDiff, Nat.reduceEqDiff, Nat.reduceAdd, Nat.reduceSub, Nat.reduceMul, reduceIte, reduceCtorEq, e0, e1, e2] <;> rfl)))); refine sk_id ?_))))
    refine sk_loop (fun m fr σ' => ∃ i, m = S.length - i ∧ i ≤ S.length ∧ fget fr 175 = .ptr σ.next 0 ∧ σ' = σ.push (.siter S i)) _
      ⟨0, rfl, by omega, (by first | (simp only [go_sem, Nat.reduceLT, Nat.reduceLeDiff, Nat.reduceEqDiff, Nat.reduceAdd, Nat.reduceSub, Nat.reduceMul, reduceIte, reduceCtorEq] <;> rfl) | fail), rfl⟩ ?_
    rintro _ fr τ ⟨i, rfl, hi, h175, hτ⟩
    rw [hτ]
    have g1 : (σ.push (.siter S i)).m.get σ.next = some (.siter S i) := get_push_same _ _
    have g2 : ∀ x y, (σ.push x).put σ.next y [] = σ.push y := fun x y => put_push_same σ x y
    by_cases hil : i < S.length
    · obtain ⟨s, hs⟩ := at_some hil
      have hds : dec (S.drop i) = (s, 1) := by rw [drop_some hs]; exact dec_ascii _ (hS s (at_mem hs))
      have e3 : decide (i < S.length) = true := by simpa using hil
      have e4 : ((s : Int) == 65533) = false := by have := hS s (at_mem hs); simp; omega
      repeat (first
        | refine sk_seq ?_
        | refine sk_region ?_
        | refine sk_ops_nil ?_
        | refine sk_draw_nil ?_
        | refine sk_block ?_
        | refine sk_blk ?_
        | refine sk_skip ?_
        | refine sk_exit rfl ?_
        | refine sk_draw (id := 6) [0, 1, 2, 3, 4, 5, 6] mixed (by kernel_rfl) ?_
        | refine sk_draw (id := 7) [0, 1, 2, 3, 4, 5, 6, 7, 8] mixed (by kernel_rfl) ?_
        | refine sk_draw (id := 14) [0, 1, 2, 3, 4, 5, 6, 7, 8, 9, 10] mixed (by kernel_rfl) ?_
        | refine sk_draw (id := 31) [0, 1, 2, 3, 4, 5, 6, 7, 8, 9, 10] mixed (by kernel_rfl) ?_
        | ((first | (apply sk_r; rfl; rfl) | (apply sk_w; rfl; rfl) | (apply sk_i; rfl) | (apply sk_g; rfl; rfl) | (apply sk_dr; rfl; rfl; rfl) | (apply sk_dg; rfl; rfl; rfl; rfl; rfl) | apply drd_i | (apply sk_dnr (i := 8) (fl := []); rfl; rfl; decide +kernel; rfl; rfl) | (apply sk_dnw (i := 8) (fl := []); rfl; rfl; decide +kernel; rfl; rfl)); (simp only [go_sem, Nat.reduceLT, Nat.reduceLeDiff, Nat.reduceEqDiff, Nat.reduceAdd, Nat.reduceSub, Nat.reduceMul, reduceIte, reduceCtorEq, h175, g1, g2, hds, e3, e4] <;> rfl); (first | refine sk_id ?_ | refine cs_t ?_ | refine cs_f ?_ | refine gs_t rfl ?_ | refine gs_f rfl ?_ | ((repeat (first | exact trivial | ((first | (apply redos_r; rfl; rfl) | (apply redos_g; rfl; rfl; rfl; rfl)); (simp only [go_sem, Nat.reduceLT, Nat.reduceLeDiff, Nat.reduceEqDiff, Nat.reduceAdd, Nat.reduceSub, Nat.reduceMul, reduceIte, reduceCtorEq, h175, g1, g2, hds, e3, e4] <;> rfl)) | (apply redos_s; rfl; rfl; rfl; (simp only [go_sem, Nat.reduceLT, Nat.reduceLeDiff, Nat.reduceEqDiff, Nat.reduceAdd, Nat.reduceSub, Nat.reduceMul, reduceIte, reduceCtorEq, h175, g1, g2, hds, e3, e4] <;> rfl)))); refine sk_id ?_))))
      exact sk_stop ⟨S.length - (i + 1), by omega, i + 1, rfl, by omega, (by first | (simp only [go_sem, Nat.reduceLT, Nat.reduceLeDiff, Nat.reduceEqDiff, Nat.reduceAdd, Nat.reduceSub, Nat.reduceMul, reduceIte, reduceCtorEq, h175] <;> rfl) | fail), rfl⟩
    · have e3 : decide (i < S.length) = false := by simpa using hil
      repeat (first
        | refine sk_seq ?_
        | refine sk_region ?_
        | refine sk_ops_nil ?_
        | refine sk_draw_nil ?_
        | refine sk_block ?_
        | refine sk_blk ?_
        | refine sk_skip ?_
        | refine sk_exit rfl ?_
        | refine sk_draw (id := 6) [0, 1, 2, 3, 4, 5, 6] mixed (by kernel_rfl) ?_
        | refine sk_draw (id := 7) [0, 1, 2, 3, 4, 5, 6, 7, 8] mixed (by kernel_rfl) ?_
        | refine sk_draw (id := 14) [0, 1, 2, 3, 4, 5, 6, 7, 8, 9, 10] mixed (by kernel_rfl) ?_
        | refine sk_draw (id := 31) [0, 1, 2, 3, 4, 5, 6, 7, 8, 9, 10] mixed (by kernel_rfl) ?_
        | ((first | (apply sk_r; rfl; rfl) | (apply sk_w; rfl; rfl) | (apply sk_i; rfl) | (apply sk_g; rfl; rfl) | (apply sk_dr; rfl; rfl; rfl) | (apply sk_dg; rfl; rfl; rfl; rfl; rfl) | apply drd_i | (apply sk_dnr (i := 8) (fl := []); rfl; rfl; decide +kernel; rfl; rfl) | (apply sk_dnw (i := 8) (fl := []); rfl; rfl; decide +kernel; rfl; rfl)); (simp only [go_sem, Nat.reduceLT, Nat.reduceLeDiff, Nat.reduceEqDiff, Nat.reduceAdd, Nat.reduceSub, Nat.reduceMul, reduceIte, reduceCtorEq, h175, g1, g2, e3] <;> rfl); (first | refine sk_id ?_ | refine cs_t ?_ | refine cs_f ?_ | refine gs_t rfl ?_ | refine gs_f rfl ?_ | ((repeat (first | exact trivial | ((first | (apply redos_r; rfl; rfl) | (apply redos_g; rfl; rfl; rfl; rfl)); (simp only [go_sem, Nat.reduceLT, Nat.reduceLeDiff, Nat.reduceEqDiff, Nat.reduceAdd, Nat.reduceSub, Nat.reduceMul, reduceIte, reduceCtorEq, h175, g1, g2, e3] <;> rfl)) | (apply redos_s; rfl; rfl; rfl; (simp only [go_sem, Nat.reduceLT, Nat.reduceLeDiff, Nat.reduceEqDiff, Nat.reduceAdd, Nat.reduceSub, Nat.reduceMul, reduceIte, reduceCtorEq, h175, g1, g2, e3] <;> rfl)))); refine sk_id ?_))))
      exact sk_ret ⟨_, (by first | (simp only [aRet, Tryd.results86, aResults, aResult, go_sem, Nat.reduceLT, Nat.reduceLeDiff, Nat.reduceEqDiff, Nat.reduceAdd, Nat.reduceSub, Nat.reduceMul, reduceIte, reduceCtorEq] <;> rfl) | fail), rfl, fun b x hb => by rw [get_push, if_neg (by have := wf_lt hW hb; omega)]; exact hb, rfl, rfl⟩
  · have e2 : ((r : Int) == 65533) = false := by simp; omega
    obtain ⟨l, z, hlz, hl3, hz, hz2⟩ := enc_high h
    repeat (first
      | refine sk_seq ?_
      | refine sk_region ?_
      | refine sk_ops_nil ?_
      | refine sk_draw_nil ?_
      | refine sk_block ?_
      | refine sk_blk ?_
      | refine sk_skip ?_
      | refine sk_exit rfl ?_
      | refine sk_draw (id := 6) [0, 1, 2, 3, 4, 5, 6] mixed (by kernel_rfl) ?_
      | refine sk_draw (id := 7) [0, 1, 2, 3, 4, 5, 6, 7, 8] mixed (by kernel_rfl) ?_
      | refine sk_draw (id := 14) [0, 1, 2, 3, 4, 5, 6, 7, 8, 9, 10] mixed (by kernel_rfl) ?_
      | refine sk_draw (id := 31) [0, 1, 2, 3, 4, 5, 6, 7, 8, 9, 10] mixed (by kernel_rfl) ?_
      | ((first | (apply sk_r; rfl; rfl) | (apply sk_w; rfl; rfl) | (apply sk_i; rfl) | (apply sk_g; rfl; rfl) | (apply sk_dr; rfl; rfl; rfl) | (apply sk_dg; rfl; rfl; rfl; rfl; rfl) | apply drd_i | (apply sk_dnr (i := 8) (fl := []); rfl; rfl; decide +kernel; rfl; rfl) | (apply sk_dnw (i := 8) (fl := []); rfl; rfl; decide +kernel; rfl; rfl)); (simp only [go_sem, Nat.reduceLT, Nat.reduceLeDiff, Nat.reduceEqDiff, Nat.reduceAdd, Nat.reduceSub, Nat.reduceMul, reduceIte, reduceCtorEq, e0, e1, e2] <;> rfl); (first | refine sk_id ?_ | refine cs_t ?_ | refine cs_f ?_ | refine gs_t rfl ?_ | refine gs_f rfl ?_ | ((repeat (first | exact trivial | ((first | (apply redos_r; rfl; rfl) | (apply redos_g; rfl; rfl; rfl; rfl)); (simp only [go_sem, Nat.reduceLT, Nat.reduceLeDiff, Nat.reduceEqDiff, Nat.reduceAdd, Nat.reduceSub, Nat.reduceMul, reduceIte, reduceCtorEq, e0, e1, e2] <;> rfl)) | (apply redos_s; rfl; rfl; rfl; (simp only [go_sem, Nat.reduceLT, Nat.reduceLeDiff, Nat.reduceEqDiff, Nat.reduceAdd, Nat.reduceSub, Nat.reduceMul, reduceIte, reduceCtorEq, e0, e1, e2] <;> rfl)))); refine sk_id ?_)))
      | ((first | (apply sk_c; rfl; rfl) | (apply sk_dnc (i := 7) (fl := []); rfl; rfl; decide +kernel; rfl)); (simp only [go_sem, Nat.reduceLT, Nat.reduceLeDiff, Nat.reduceEqDiff, Nat.reduceAdd, Nat.reduceSub, Nat.reduceMul, reduceIte, reduceCtorEq, e0, e1, e2] <;> rfl); (first
          | (refine (f94_tr r _).mono ?_; rintro _ τ2 ⟨⟨vb, rfl⟩, hτ2⟩; rw [hτ2])); (first | refine sk_id ?_ | (refine ⟨?_, ?_⟩; (repeat (first | exact trivial | ((first | (apply redos_r; rfl; rfl) | (apply redos_g; rfl; rfl; rfl; rfl)); (simp only [go_sem, Nat.reduceLT, Nat.reduceLeDiff, Nat.reduceEqDiff, Nat.reduceAdd, Nat.reduceSub, Nat.reduceMul, reduceIte, reduceCtorEq, e0, e1, e2] <;> rfl)) | (apply redos_s; rfl; rfl; rfl; (simp only [go_sem, Nat.reduceLT, Nat.reduceLeDiff, Nat.reduceEqDiff, Nat.reduceAdd, Nat.reduceSub, Nat.reduceMul, reduceIte, reduceCtorEq, e0, e1, e2] <;> rfl)))); refine sk_id ?_))))
    have keepσ : ∀ b y, σ.m.get b = some y → σ.m.get b = some y := fun _ _ h => h
    cases vb
    · repeat (first
        | refine sk_seq ?_
        | refine sk_region ?_
        | refine sk_ops_nil ?_
        | refine sk_draw_nil ?_
        | refine sk_block ?_
        | refine sk_blk ?_
        | refine sk_skip ?_
        | refine sk_exit rfl ?_
        | refine sk_draw (id := 6) [0, 1, 2, 3, 4, 5, 6] mixed (by kernel_rfl) ?_
        | refine sk_draw (id := 7) [0, 1, 2, 3, 4, 5, 6, 7, 8] mixed (by kernel_rfl) ?_
        | refine sk_draw (id := 14) [0, 1, 2, 3, 4, 5, 6, 7, 8, 9, 10] mixed (by kernel_rfl) ?_
        | refine sk_draw (id := 31) [0, 1, 2, 3, 4, 5, 6, 7, 8, 9, 10] mixed (by kernel_rfl) ?_
        | ((first | (apply sk_r; rfl; rfl) | (apply sk_w; rfl; rfl) | (apply sk_i; rfl) | (apply sk_g; rfl; rfl) | (apply sk_dr; rfl; rfl; rfl) | (apply sk_dg; rfl; rfl; rfl; rfl; rfl) | apply drd_i | (apply sk_dnr (i := 8) (fl := []); rfl; rfl; decide +kernel; rfl; rfl) | (apply sk_dnw (i := 8) (fl := []); rfl; rfl; decide +kernel; rfl; rfl)); (simp only [go_sem, Nat.reduceLT, Nat.reduceLeDiff, Nat.reduceEqDiff, Nat.reduceAdd, Nat.reduceSub, Nat.reduceMul, reduceIte, reduceCtorEq] <;> rfl); (first | refine sk_id ?_ | refine cs_t ?_ | refine cs_f ?_ | refine gs_t rfl ?_ | refine gs_f rfl ?_ | ((repeat (first | exact trivial | ((first | (apply redos_r; rfl; rfl) | (apply redos_g; rfl; rfl; rfl; rfl)); (simp only [go_sem, Nat.reduceLT, Nat.reduceLeDiff, Nat.reduceEqDiff, Nat.reduceAdd, Nat.reduceSub, Nat.reduceMul, reduceIte, reduceCtorEq] <;> rfl)) | (apply redos_s; rfl; rfl; rfl; (simp only [go_sem, Nat.reduceLT, Nat.reduceLeDiff, Nat.reduceEqDiff, Nat.reduceAdd, Nat.reduceSub, Nat.reduceMul, reduceIte, reduceCtorEq] <;> rfl)))); refine sk_id ?_))))
      exact sk_ret ⟨_, (by first | (simp only [aRet, Tryd.results86, aResults, aResult, go_sem, Nat.reduceLT, Nat.reduceLeDiff, Nat.reduceEqDiff, Nat.reduceAdd, Nat.reduceSub, Nat.reduceMul, reduceIte, reduceCtorEq] <;> rfl) | fail), rfl, keepσ, rfl, rfl⟩
    · have e3 : IntKind.wrap .i64 (((l ++ [z]).length : Int) - 1) = ((l.length : Nat) : Int) := by rw [wrap_i64 (by simp) (by simp; omega)]; simp
      repeat (first
        | refine sk_scope ?_
        | refine sk_seq ?_
        | refine sk_region ?_
        | refine sk_ops_nil ?_
        | refine sk_draw_nil ?_
        | refine sk_block ?_
        | refine sk_blk ?_
        | refine sk_skip ?_
        | refine sk_exit rfl ?_
        | refine sk_draw (id := 6) [0, 1, 2, 3, 4, 5, 6] mixed (by kernel_rfl) ?_
        | refine sk_draw (id := 7) [0, 1, 2, 3, 4, 5, 6, 7, 8] mixed (by kernel_rfl) ?_
        | refine sk_draw (id := 14) [0, 1, 2, 3, 4, 5, 6, 7, 8, 9, 10] mixed (by kernel_rfl) ?_
        | refine sk_draw (id := 31) [0, 1, 2, 3, 4, 5, 6, 7, 8, 9, 10] mixed (by kernel_rfl) ?_
        | ((first | (apply sk_r; rfl; rfl) | (apply sk_w; rfl; rfl) | (apply sk_i; rfl) | (apply sk_g; rfl; rfl) | (apply sk_dr; rfl; rfl; rfl) | (apply sk_dg; rfl; rfl; rfl; rfl; rfl) | apply drd_i | (apply sk_dnr (i := 8) (fl := []); rfl; rfl; decide +kernel; rfl; rfl) | (apply sk_dnw (i := 8) (fl := []); rfl; rfl; decide +kernel; rfl; rfl)); (simp only [go_sem, Nat.reduceLT, Nat.reduceLeDiff, Nat.reduceEqDiff, Nat.reduceAdd, Nat.reduceSub, Nat.reduceMul, reduceIte, reduceCtorEq, hlz, e3] <;> rfl); (first | refine sk_id ?_ | refine cs_t ?_ | refine cs_f ?_ | refine gs_t rfl ?_ | refine gs_f rfl ?_ | ((repeat (first | exact trivial | ((first | (apply redos_r; rfl; rfl) | (apply redos_g; rfl; rfl; rfl; rfl)); (simp only [go_sem, Nat.reduceLT, Nat.reduceLeDiff, Nat.reduceEqDiff, Nat.reduceAdd, Nat.reduceSub, Nat.reduceMul, reduceIte, reduceCtorEq, hlz, e3] <;> rfl)) | (apply redos_s; rfl; rfl; rfl; (simp only [go_sem, Nat.reduceLT, Nat.reduceLeDiff, Nat.reduceEqDiff, Nat.reduceAdd, Nat.reduceSub, Nat.reduceMul, reduceIte, reduceCtorEq, hlz, e3] <;> rfl)))); refine sk_id ?_))))
      refine sk_once ?_
      by_cases hil : l.length < S.length
      · have e4 : decide ((l.length : Int) < (S.length : Int)) = true := decide_eq_true (by omega)
        obtain ⟨s, hs⟩ := at_some hil
        have hs8 := hS s (at_mem hs)
        have e5 : (0 : Int) ≤ (l.length : Int) := by omega
        have e6 : (l ++ [z])[l.length]? = some z := by simp
        have e7 : ((s : Int) == (z : Int)) = false := by simp; omega
        have e7' : ((s : Int) != (z : Int)) = true := by simp; omega
        have e8 : IntKind.wrap .i64 ((l.length : Int) + 1) = ((l.length + 1 : Nat) : Int) := wrap_i64 (by omega) (by omega)
        have e9 : (0 : Int) ≤ ((l.length + 1 : Nat) : Int) := by omega
        have e10 : ((l.length + 1 : Nat) : Int) ≤ (S.length : Int) := by omega
        have e11 := idx_none (S := (S.take S.length).drop (l.length + 1)) (c := z) (fun h => by have := hS z (List.mem_of_mem_take (List.mem_of_mem_drop h)); omega)
        repeat (first
          | refine sk_scope ?_
          | refine sk_seq ?_
          | refine sk_region ?_
          | refine sk_ops_nil ?_
          | refine sk_draw_nil ?_
          | refine sk_block ?_
          | refine sk_blk ?_
          | refine sk_skip ?_
          | refine sk_exit rfl ?_
          | refine sk_draw (id := 6) [0, 1, 2, 3, 4, 5, 6] mixed (by kernel_rfl) ?_
          | refine sk_draw (id := 7) [0, 1, 2, 3, 4, 5, 6, 7, 8] mixed (by kernel_rfl) ?_
          | refine sk_draw (id := 14) [0, 1, 2, 3, 4, 5, 6, 7, 8, 9, 10] mixed (by kernel_rfl) ?_
          | refine sk_draw (id := 31) [0, 1, 2, 3, 4, 5, 6, 7, 8, 9, 10] mixed (by kernel_rfl) ?_
          | ((first | (apply sk_r; rfl; rfl) | (apply sk_w; rfl; rfl) | (apply sk_i; rfl) | (apply sk_g; rfl; rfl) | (apply sk_dr; rfl; rfl; rfl) | (apply sk_dg; rfl; rfl; rfl; rfl; rfl) | apply drd_i | (apply sk_dnr (i := 8) (fl := []); rfl; rfl; decide +kernel; rfl; rfl) | (apply sk_dnw (i := 8) (fl := []); rfl; rfl; decide +kernel; rfl; rfl)); (simp only [go_sem, Nat.reduceLT, Nat.reduceLeDiff, Nat.reduceEqDiff, Nat.reduceAdd, Nat.reduceSub, Nat.reduceMul, reduceIte, reduceCtorEq, e4, e5, e6, e7, e7', e8, e9, e10, hs, and_self, Int.le_refl] <;> rfl); (first | refine sk_id ?_ | refine cs_t ?_ | refine cs_f ?_ | refine gs_t rfl ?_ | refine gs_f rfl ?_ | ((repeat (first | exact trivial | ((first | (apply redos_r; rfl; rfl) | (apply redos_g; rfl; rfl; rfl; rfl)); (simp only [go_sem, Nat.reduceLT, Nat.reduceLeDiff, Nat.reduceEqDiff, Nat.reduceAdd, Nat.reduceSub, Nat.reduceMul, reduceIte, reduceCtorEq, e4, e5, e6, e7, e7', e8, e9, e10, hs, and_self, Int.le_refl] <;> rfl)) | (apply redos_s; rfl; rfl; rfl; (simp only [go_sem, Nat.reduceLT, Nat.reduceLeDiff, Nat.reduceEqDiff, Nat.reduceAdd, Nat.reduceSub, Nat.reduceMul, reduceIte, reduceCtorEq, e4, e5, e6, e7, e7', e8, e9, e10, hs, and_self, Int.le_refl] <;> rfl)))); refine sk_id ?_)))
          | ((first | (apply sk_c; rfl; rfl) | (apply sk_dnc (i := 7) (fl := []); rfl; rfl; decide +kernel; rfl)); (simp only [go_sem, Nat.reduceLT, Nat.reduceLeDiff, Nat.reduceEqDiff, Nat.reduceAdd, Nat.reduceSub, Nat.reduceMul, reduceIte, reduceCtorEq, e4, e5, e6, e7, e7', e8, e9, e10, hs, and_self, Int.le_refl] <;> rfl); (first
              | (refine (f48_tr _ z hz2 _).mono ?_; rintro _ τ2 ⟨rfl, hτ2⟩; rw [hτ2, e11])); (first | refine sk_id ?_ | (refine ⟨?_, ?_⟩; (repeat (first | exact trivial | ((first | (apply redos_r; rfl; rfl) | (apply redos_g; rfl; rfl; rfl; rfl)); (simp only [go_sem, Nat.reduceLT, Nat.reduceLeDiff, Nat.reduceEqDiff, Nat.reduceAdd, Nat.reduceSub, Nat.reduceMul, reduceIte, reduceCtorEq, e4, e5, e6, e7, e7', e8, e9, e10, hs, and_self, Int.le_refl] <;> rfl)) | (apply redos_s; rfl; rfl; rfl; (simp only [go_sem, Nat.reduceLT, Nat.reduceLeDiff, Nat.reduceEqDiff, Nat.reduceAdd, Nat.reduceSub, Nat.reduceMul, reduceIte, reduceCtorEq, e4, e5, e6, e7, e7', e8, e9, e10, hs, and_self, Int.le_refl] <;> rfl)))); refine sk_id ?_))))
        exact sk_scope_ret (sk_ret_pass (sk_ret_pass (Q := BodyQ Tryd.prog Tryd.f86 _) ⟨_, (by first | (simp only [aRet, Tryd.results86, aResults, aResult, go_sem, Nat.reduceLT, Nat.reduceLeDiff, Nat.reduceEqDiff, Nat.reduceAdd, Nat.reduceSub, Nat.reduceMul, reduceIte, reduceCtorEq] <;> rfl) | fail), rfl, keepσ, rfl, rfl⟩))
      · have e4 : decide ((l.length : Int) < (S.length : Int)) = false := decide_eq_false (by omega)
        repeat (first
          | refine sk_seq ?_
          | refine sk_region ?_
          | refine sk_ops_nil ?_
          | refine sk_draw_nil ?_
          | refine sk_block ?_
          | refine sk_blk ?_
          | refine sk_skip ?_
          | refine sk_exit rfl ?_
          | refine sk_draw (id := 6) [0, 1, 2, 3, 4, 5, 6] mixed (by kernel_rfl) ?_
          | refine sk_draw (id := 7) [0, 1, 2, 3, 4, 5, 6, 7, 8] mixed (by kernel_rfl) ?_
          | refine sk_draw (id := 14) [0, 1, 2, 3, 4, 5, 6, 7, 8, 9, 10] mixed (by kernel_rfl) ?_
          | refine sk_draw (id := 31) [0, 1, 2, 3, 4, 5, 6, 7, 8, 9, 10] mixed (by kernel_rfl) ?_
          | ((first | (apply sk_r; rfl; rfl) | (apply sk_w; rfl; rfl) | (apply sk_i; rfl) | (apply sk_g; rfl; rfl) | (apply sk_dr; rfl; rfl; rfl) | (apply sk_dg; rfl; rfl; rfl; rfl; rfl) | apply drd_i | (apply sk_dnr (i := 8) (fl := []); rfl; rfl; decide +kernel; rfl; rfl) | (apply sk_dnw (i := 8) (fl := []); rfl; rfl; decide +kernel; rfl; rfl)); (simp only [go_sem, Nat.reduceLT, Nat.reduceLeDiff, Nat.reduceEqDiff, Nat.reduceAdd, Nat.reduceSub, Nat.reduceMul, reduceIte, reduceCtorEq, e4] <;> rfl); (first | refine sk_id ?_ | refine cs_t ?_ | refine cs_f ?_ | refine gs_t rfl ?_ | refine gs_f rfl ?_ | ((repeat (first | exact trivial | ((first | (apply redos_r; rfl; rfl) | (apply redos_g; rfl; rfl; rfl; rfl)); (simp only [go_sem, Nat.reduceLT, Nat.reduceLeDiff, Nat.reduceEqDiff, Nat.reduceAdd, Nat.reduceSub, Nat.reduceMul, reduceIte, reduceCtorEq, e4] <;> rfl)) | (apply redos_s; rfl; rfl; rfl; (simp only [go_sem, Nat.reduceLT, Nat.reduceLeDiff, Nat.reduceEqDiff, Nat.reduceAdd, Nat.reduceSub, Nat.reduceMul, reduceIte, reduceCtorEq, e4] <;> rfl)))); refine sk_id ?_))))
        exact sk_scope_ret (sk_ret_pass ⟨_, (by first | (simp only [aRet, Tryd.results86, aResults, aResult, go_sem, Nat.reduceLT, Nat.reduceLeDiff, Nat.reduceEqDiff, Nat.reduceAdd, Nat.reduceSub, Nat.reduceMul, reduceIte, reduceCtorEq] <;> rfl) | fail), rfl, keepσ, rfl, rfl⟩)
end Go.Proofs.YtophnlmdcidolaaDoor
namespace Go.Proofs.YtophnlmdcidolaaDoor
open Go Go.Am
set_option maxHeartbeats 8000000
set_option maxRecDepth 100000
theorem f87_tr (n : Nat) (σ : AHeap) : Tr Tryd.prog 87 [.int .i64 (n : Nat)] σ fun v σ' => v = .bool (decide (8 < n)) ∧ σ' = σ := by
  refine sk_body (m := 5) Tryd.func87 rfl (by decide) rfl ?_
  have e : decide ((n : Int) > 8) = decide (8 < n) := by by_cases h : 8 < n <;> simp [h] <;> omega
  repeat (first
    | refine sk_seq ?_
    | refine sk_region ?_
    | refine sk_ops_nil ?_
    | refine sk_block ?_
    | refine sk_blk ?_
    | refine sk_skip ?_
    | refine sk_exit rfl ?_
    | ((first | (apply sk_r; rfl; rfl) | (apply sk_w; rfl; rfl) | (apply sk_i; rfl) | (apply sk_g; rfl; rfl)); (simp only [go_sem, Nat.reduceLT, Nat.reduceLeDiff, Nat.reduceEqDiff, Nat.reduceAdd, Nat.reduceSub, Nat.reduceMul, reduceIte, reduceCtorEq, e] <;> rfl); (first | refine sk_id ?_ | refine cs_t ?_ | refine cs_f ?_ | refine gs_t rfl ?_ | refine gs_f rfl ?_)))
  exact sk_ret ⟨_, (by first | (simp only [aRet, Tryd.results87, aResults, aResult, go_sem, Nat.reduceLT, Nat.reduceLeDiff, Nat.reduceEqDiff, Nat.reduceAdd, Nat.reduceSub, Nat.reduceMul, reduceIte, reduceCtorEq] <;> rfl) | fail), rfl, rfl⟩
theorem f74_tr (d S : List Nat) (hS : ∀ c ∈ S, c < 128) (h2 : 2 ≤ S.length) (hSn : S.length ≤ 1000) (hd : ∀ c ∈ d, c < 256) (hl : d.length ≤ 1000000) (σ : AHeap) :
    Tr Tryd.prog 74 [.str d, .str S] σ fun v σ' => v = .int .i64 (firstIn S d) ∧ σ' = σ := by
  refine Tr.wf fun hW => Tr.pure ?_
  refine sk_body (m := 55) Tryd.func74 rfl (by decide) rfl ?_
  have e0 : beqL S [] = false := by rw [beqL_eq]; exact decide_eq_false (by intro h; rw [h] at h2; simp at h2)
  have e1 : ((S.length : Int) == 1) = false := by simp; omega
  have kp : ∀ (x : ABlock) b y, σ.m.get b = some y → (σ.push x).m.get b = some y := fun x b y h => by rw [get_push, if_neg (by have := wf_lt hW h; omega)]; exact h
  by_cases h8 : 8 < d.length
  · have e2 : decide (8 < d.length) = true := decide_eq_true h8
    repeat (first
      | refine sk_seq ?_
      | refine sk_region ?_
      | refine sk_ops_nil ?_
      | refine sk_block ?_
      | refine sk_blk ?_
      | refine sk_skip ?_
      | refine sk_exit rfl ?_
      | ((first | (apply sk_r; rfl; rfl) | (apply sk_w; rfl; rfl) | (apply sk_i; rfl) | (apply sk_g; rfl; rfl)); (simp only [go_sem, Nat.reduceLT, Nat.reduceLeDiff, Nat.reduceEqDiff, Nat.reduceAdd, Nat.reduceSub, Nat.reduceMul, reduceIte, reduceCtorEq, bytes_nil, e0, e1, zo93, setAV_nil, setAV_len, setAV_one, setAV_lay] <;> rfl); (first | refine sk_id ?_ | refine cs_t ?_ | refine cs_f ?_ | refine gs_t rfl ?_ | refine gs_f rfl ?_))
      | ((first | (apply sk_c; rfl; rfl)); (simp only [go_sem, Nat.reduceLT, Nat.reduceLeDiff, Nat.reduceEqDiff, Nat.reduceAdd, Nat.reduceSub, Nat.reduceMul, reduceIte, reduceCtorEq, bytes_nil, e0, e1, zo93, setAV_nil, setAV_len, setAV_one, setAV_lay] <;> rfl); (first
          | (refine (f87_tr d.length _).mono ?_; rintro _ τ2 ⟨rfl, hτ2⟩; rw [hτ2, e2])
          | (refine (f57_tr S hS (by omega) _).mono ?_; rintro _ τ2 ⟨rfl, hτ2⟩; rw [hτ2])); refine sk_id ?_))
    refine sk_loop (fun m fr σ' => ∃ i, m = d.length - i ∧ i ≤ d.length ∧ run (fun c => !isIn S c) d i = run (fun c => !isIn S c) d 0 ∧ fget fr 0 = .str d ∧ fget fr 6 = .ptr σ.next 0 ∧ fget fr 8 = .int .i64 (i : Nat) ∧ σ' = σ.push (.cells (setAV S) false 0 [])) _
      ⟨0, rfl, Nat.zero_le _, rfl, (by first | (simp only [go_sem, Nat.reduceLT, Nat.reduceLeDiff, Nat.reduceEqDiff, Nat.reduceAdd, Nat.reduceSub, Nat.reduceMul, reduceIte, reduceCtorEq] <;> rfl) | fail), (by first | (simp only [go_sem, Nat.reduceLT, Nat.reduceLeDiff, Nat.reduceEqDiff, Nat.reduceAdd, Nat.reduceSub, Nat.reduceMul, reduceIte, reduceCtorEq] <;> rfl) | fail), (by first | (simp only [go_sem, Nat.reduceLT, Nat.reduceLeDiff, Nat.reduceEqDiff, Nat.reduceAdd, Nat.reduceSub, Nat.reduceMul, reduceIte, reduceCtorEq] <;> rfl) | fail), rfl⟩ ?_
    rintro _ fr τ ⟨i, rfl, hi, hr, h0, h6, h8, hτ⟩
    rw [hτ]
    have g1 := get_push_same σ (.cells (setAV S) false 0 [])
    by_cases hil : i < d.length
    · obtain ⟨c, hc⟩ := at_some hil
      have hc8 := hd c (at_mem hc)
      have e3 : decide ((i : Int) < (d.length : Int)) = true := decide_eq_true (by omega)
      have e4 : (0 : Int) ≤ (i : Int) := by omega
      have e5 : IntKind.wrap .i64 ((i : Int) + 1) = ((i + 1 : Nat) : Int) := wrap_i64 (by omega) (by omega)
      cases hm : isIn S c
      · repeat (first
          | refine sk_seq ?_
          | refine sk_region ?_
          | refine sk_ops_nil ?_
          | refine sk_block ?_
          | refine sk_blk ?_
          | refine sk_skip ?_
          | refine sk_exit rfl ?_
          | ((first | (apply sk_r; rfl; rfl) | (apply sk_w; rfl; rfl) | (apply sk_i; rfl) | (apply sk_g; rfl; rfl)); (simp only [go_sem, Nat.reduceLT, Nat.reduceLeDiff, Nat.reduceEqDiff, Nat.reduceAdd, Nat.reduceSub, Nat.reduceMul, reduceIte, reduceCtorEq, h0, h6, h8, e3, e4, e5, hc] <;> rfl); (first | refine sk_id ?_ | refine cs_t ?_ | refine cs_f ?_ | refine gs_t rfl ?_ | refine gs_f rfl ?_))
          | ((first | (apply sk_c; rfl; rfl)); (simp only [go_sem, Nat.reduceLT, Nat.reduceLeDiff, Nat.reduceEqDiff, Nat.reduceAdd, Nat.reduceSub, Nat.reduceMul, reduceIte, reduceCtorEq, h0, h6, h8, e3, e4, e5, hc] <;> rfl); (first
              | (refine (f78_tr σ.next c S hc8 _ false 0 [] g1).mono ?_; rintro _ τ2 ⟨rfl, hτ2⟩; rw [hτ2, hm])); refine sk_id ?_))
        exact sk_stop ⟨d.length - (i + 1), by omega, i + 1, rfl, by omega, (run_step hc (by simp [hm])).symm.trans hr, (by first | (simp only [go_sem, Nat.reduceLT, Nat.reduceLeDiff, Nat.reduceEqDiff, Nat.reduceAdd, Nat.reduceSub, Nat.reduceMul, reduceIte, reduceCtorEq, h0] <;> rfl) | fail), (by first | (simp only [go_sem, Nat.reduceLT, Nat.reduceLeDiff, Nat.reduceEqDiff, Nat.reduceAdd, Nat.reduceSub, Nat.reduceMul, reduceIte, reduceCtorEq, h6] <;> rfl) | fail), (by first | (simp only [go_sem, Nat.reduceLT, Nat.reduceLeDiff, Nat.reduceEqDiff, Nat.reduceAdd, Nat.reduceSub, Nat.reduceMul, reduceIte, reduceCtorEq] <;> rfl) | fail), rfl⟩
      · repeat (first
          | refine sk_seq ?_
          | refine sk_region ?_
          | refine sk_ops_nil ?_
          | refine sk_block ?_
          | refine sk_blk ?_
          | refine sk_skip ?_
          | refine sk_exit rfl ?_
          | ((first | (apply sk_r; rfl; rfl) | (apply sk_w; rfl; rfl) | (apply sk_i; rfl) | (apply sk_g; rfl; rfl)); (simp only [go_sem, Nat.reduceLT, Nat.reduceLeDiff, Nat.reduceEqDiff, Nat.reduceAdd, Nat.reduceSub, Nat.reduceMul, reduceIte, reduceCtorEq, h0, h6, h8, e3, e4, e5, hc] <;> rfl); (first | refine sk_id ?_ | refine cs_t ?_ | refine cs_f ?_ | refine gs_t rfl ?_ | refine gs_f rfl ?_))
          | ((first | (apply sk_c; rfl; rfl)); (simp only [go_sem, Nat.reduceLT, Nat.reduceLeDiff, Nat.reduceEqDiff, Nat.reduceAdd, Nat.reduceSub, Nat.reduceMul, reduceIte, reduceCtorEq, h0, h6, h8, e3, e4, e5, hc] <;> rfl); (first
              | (refine (f78_tr σ.next c S hc8 _ false 0 [] g1).mono ?_; rintro _ τ2 ⟨rfl, hτ2⟩; rw [hτ2, hm])); refine sk_id ?_))
        exact sk_ret ⟨_, (by first | (simp only [aRet, Tryd.results74, aResults, aResult, go_sem, Nat.reduceLT, Nat.reduceLeDiff, Nat.reduceEqDiff, Nat.reduceAdd, Nat.reduceSub, Nat.reduceMul, reduceIte, reduceCtorEq] <;> rfl) | fail), rfl, kp _, by rw [firstIn, ← hr, run_stop hc (by simp [hm]), if_pos hil], rfl⟩
    · have e3 : decide ((i : Int) < (d.length : Int)) = false := decide_eq_false (by omega)
      repeat (first
        | refine sk_seq ?_
        | refine sk_region ?_
        | refine sk_ops_nil ?_
        | refine sk_block ?_
        | refine sk_blk ?_
        | refine sk_skip ?_
        | refine sk_exit rfl ?_
        | ((first | (apply sk_r; rfl; rfl) | (apply sk_w; rfl; rfl) | (apply sk_i; rfl) | (apply sk_g; rfl; rfl)); (simp only [go_sem, Nat.reduceLT, Nat.reduceLeDiff, Nat.reduceEqDiff, Nat.reduceAdd, Nat.reduceSub, Nat.reduceMul, reduceIte, reduceCtorEq, h0, h6, h8, e3] <;> rfl); (first | refine sk_id ?_ | refine cs_t ?_ | refine cs_f ?_ | refine gs_t rfl ?_ | refine gs_f rfl ?_)))
      exact sk_ret ⟨_, (by first | (simp only [aRet, Tryd.results74, aResults, aResult, go_sem, Nat.reduceLT, Nat.reduceLeDiff, Nat.reduceEqDiff, Nat.reduceAdd, Nat.reduceSub, Nat.reduceMul, reduceIte, reduceCtorEq] <;> rfl) | fail), rfl, kp _, by rw [firstIn, ← hr, run_end (by omega), if_neg (by omega)], rfl⟩
  · have e2 : decide (8 < d.length) = false := decide_eq_false h8
    repeat (first
      | refine sk_seq ?_
      | refine sk_region ?_
      | refine sk_ops_nil ?_
      | refine sk_block ?_
      | refine sk_blk ?_
      | refine sk_skip ?_
      | refine sk_exit rfl ?_
      | ((first | (apply sk_r; rfl; rfl) | (apply sk_w; rfl; rfl) | (apply sk_i; rfl) | (apply sk_g; rfl; rfl)); (simp only [go_sem, Nat.reduceLT, Nat.reduceLeDiff, Nat.reduceEqDiff, Nat.reduceAdd, Nat.reduceSub, Nat.reduceMul, reduceIte, reduceCtorEq, bytes_nil, e0, e1] <;> rfl); (first | refine sk_id ?_ | refine cs_t ?_ | refine cs_f ?_ | refine gs_t rfl ?_ | refine gs_f rfl ?_))
      | ((first | (apply sk_c; rfl; rfl)); (simp only [go_sem, Nat.reduceLT, Nat.reduceLeDiff, Nat.reduceEqDiff, Nat.reduceAdd, Nat.reduceSub, Nat.reduceMul, reduceIte, reduceCtorEq, bytes_nil, e0, e1] <;> rfl); (first
          | (refine (f87_tr d.length _).mono ?_; rintro _ τ2 ⟨rfl, hτ2⟩; rw [hτ2, e2])); refine sk_id ?_))
    refine sk_loop (fun m fr σ' => ∃ j, m = d.length - j ∧ (j < d.length → run (fun c => !isIn S c) d j = run (fun c => !isIn S c) d 0) ∧ (d.length ≤ j → d.length ≤ run (fun c => !isIn S c) d 0)
      ∧ fget fr 1 = .str S ∧ fget fr 45 = .ptr σ.next 0 ∧ σ' = σ.push (.siter d j)) _
      ⟨0, rfl, fun _ => rfl, fun h => Nat.le_trans h (Nat.zero_le _), (by first | (simp only [go_sem, Nat.reduceLT, Nat.reduceLeDiff, Nat.reduceEqDiff, Nat.reduceAdd, Nat.reduceSub, Nat.reduceMul, reduceIte, reduceCtorEq] <;> rfl) | fail), (by first | (simp only [go_sem, Nat.reduceLT, Nat.reduceLeDiff, Nat.reduceEqDiff, Nat.reduceAdd, Nat.reduceSub, Nat.reduceMul, reduceIte, reduceCtorEq] <;> rfl) | fail), rfl⟩ ?_
    rintro m fr σ1 ⟨j, rfl, hr, hr2, h1, h45, hσ⟩
    rw [hσ]
    have g1 := get_push_same σ (.siter d j)
    have g2 : ∀ x y, (σ.push x).put σ.next y [] = σ.push y := fun x y => put_push_same σ x y
    by_cases hj : j < d.length
    · obtain ⟨c, hc⟩ := at_some hj
      have e3 : decide (j < d.length) = true := by simpa using hj
      have hdr := drop_some hc
      obtain ⟨r, w, hrw⟩ : ∃ r w, dec (d.drop j) = (r, w) := ⟨_, _, rfl⟩
      have hlow : c < 128 → r = c ∧ w = 1 := fun h => by rw [hdr, dec_ascii _ h] at hrw; simp at hrw; omega
      have hhigh : 128 ≤ c → 128 ≤ r ∧ 1 ≤ w ∧ ∀ i x, i < w → d[j + i]? = some x → 128 ≤ x := fun h => by
        have := dec_high (d.drop (j + 1)) h
        rw [← hdr, hrw] at this
        refine ⟨this.1, this.2.1, fun i x hi hx => this.2.2 i x hi ?_⟩
        rw [List.getElem?_drop]; exact hx
      by_cases hm : r ∈ S
      · have hc8 : c < 128 := by
          by_cases e : c < 128
          · exact e
          · have := (hhigh (by omega)).1; have := hS r hm; omega
        have hfound : firstIn S d = (j : Nat) := by
          have e := hr hj
          rw [run_stop hc (by rw [← (hlow hc8).1]; exact isIn_yes hm)] at e
          rw [firstIn, ← e, if_pos hj]
        have e4 : decide (idx S r ≥ 0) = true := (isIn_iff S r).2 hm
        repeat (first
          | refine sk_seq ?_
          | refine sk_region ?_
          | refine sk_ops_nil ?_
          | refine sk_block ?_
          | refine sk_blk ?_
          | refine sk_skip ?_
          | refine sk_exit rfl ?_
          | ((first | (apply sk_r; rfl; rfl) | (apply sk_w; rfl; rfl) | (apply sk_i; rfl) | (apply sk_g; rfl; rfl)); (simp only [go_sem, Nat.reduceLT, Nat.reduceLeDiff, Nat.reduceEqDiff, Nat.reduceAdd, Nat.reduceSub, Nat.reduceMul, reduceIte, reduceCtorEq, h1, h45, g1, g2, e3, e4, hrw] <;> rfl); (first | refine sk_id ?_ | refine cs_t ?_ | refine cs_f ?_ | refine gs_t rfl ?_ | refine gs_f rfl ?_))
          | ((first | (apply sk_c; rfl; rfl)); (simp only [go_sem, Nat.reduceLT, Nat.reduceLeDiff, Nat.reduceEqDiff, Nat.reduceAdd, Nat.reduceSub, Nat.reduceMul, reduceIte, reduceCtorEq, h1, h45, g1, g2, e3, e4, hrw] <;> rfl); (first
              | (refine (f86_low S r (by have := (hlow hc8).1; omega) _).mono ?_; rintro _ τ2 ⟨rfl, hτ2⟩; rw [hτ2])); refine sk_id ?_))
        exact sk_ret ⟨_, (by first | (simp only [aRet, Tryd.results74, aResults, aResult, go_sem, Nat.reduceLT, Nat.reduceLeDiff, Nat.reduceEqDiff, Nat.reduceAdd, Nat.reduceSub, Nat.reduceMul, reduceIte, reduceCtorEq] <;> rfl) | fail), rfl, kp _, by rw [hfound], rfl⟩
      · have hw : 1 ≤ w := by
          by_cases e : c < 128
          · have := hlow e; omega
          · exact (hhigh (by omega)).2.1
        have hsk : ∀ i x, i < w → d[j + i]? = some x → (!isIn S x) = true := fun i x hi hx => isIn_not fun hx2 => by
          by_cases e : c < 128
          · obtain ⟨e1, e2⟩ := hlow e
            obtain rfl : i = 0 := by omega
            have e3 : some x = some c := by rw [← hx, ← hc]; rfl
            simp at e3
            exact hm (by rw [e1, ← e3]; exact hx2)
          · have h3 := (hhigh (by omega)).2.2 i x hi hx
            have h4 := hS x hx2
            omega
        have hs2 := run_skip (p := fun c => !isIn S c) w j hsk
        have hsk1 : j + w < d.length → run (fun c => !isIn S c) d (j + w) = run (fun c => !isIn S c) d 0 := fun h => by rw [← hs2.1 (by omega)]; exact hr hj
        have hsk2 : d.length ≤ j + w → d.length ≤ run (fun c => !isIn S c) d 0 := fun h => by rw [← hr hj]; exact hs2.2 h
        have s86 : ∀ σ, Tr Tryd.prog 86 [.str S, .int .i32 (r : Nat)] σ fun v σ' => v = .int .i64 (-1) ∧ σ' = σ := fun σ => by
          by_cases e : r < 128
          · have := f86_low S r e σ
            rw [idx_none hm] at this
            exact this
          · exact f86_high S hS hSn r (by omega) σ
        have e4 : decide ((-1 : Int) ≥ 0) = false := rfl
        repeat (first
          | refine sk_seq ?_
          | refine sk_region ?_
          | refine sk_ops_nil ?_
          | refine sk_block ?_
          | refine sk_blk ?_
          | refine sk_skip ?_
          | refine sk_exit rfl ?_
          | ((first | (apply sk_r; rfl; rfl) | (apply sk_w; rfl; rfl) | (apply sk_i; rfl) | (apply sk_g; rfl; rfl)); (simp only [go_sem, Nat.reduceLT, Nat.reduceLeDiff, Nat.reduceEqDiff, Nat.reduceAdd, Nat.reduceSub, Nat.reduceMul, reduceIte, reduceCtorEq, h1, h45, g1, g2, e3, e4, hrw] <;> rfl); (first | refine sk_id ?_ | refine cs_t ?_ | refine cs_f ?_ | refine gs_t rfl ?_ | refine gs_f rfl ?_))
          | ((first | (apply sk_c; rfl; rfl)); (simp only [go_sem, Nat.reduceLT, Nat.reduceLeDiff, Nat.reduceEqDiff, Nat.reduceAdd, Nat.reduceSub, Nat.reduceMul, reduceIte, reduceCtorEq, h1, h45, g1, g2, e3, e4, hrw] <;> rfl); (first
              | (refine (s86 _).mono ?_; rintro _ τ2 ⟨rfl, hτ2⟩; rw [hτ2])); refine sk_id ?_))
        exact sk_stop ⟨d.length - (j + w), by omega, j + w, rfl, hsk1, hsk2, (by first | (simp only [go_sem, Nat.reduceLT, Nat.reduceLeDiff, Nat.reduceEqDiff, Nat.reduceAdd, Nat.reduceSub, Nat.reduceMul, reduceIte, reduceCtorEq, h1] <;> rfl) | fail), (by first | (simp only [go_sem, Nat.reduceLT, Nat.reduceLeDiff, Nat.reduceEqDiff, Nat.reduceAdd, Nat.reduceSub, Nat.reduceMul, reduceIte, reduceCtorEq, h45] <;> rfl) | fail), rfl⟩
    · have e3 : decide (j < d.length) = false := by simpa using hj
      repeat (first
        | refine sk_seq ?_
        | refine sk_region ?_
        | refine sk_ops_nil ?_
        | refine sk_block ?_
        | refine sk_blk ?_
        | refine sk_skip ?_
        | refine sk_exit rfl ?_
        | ((first | (apply sk_r; rfl; rfl) | (apply sk_w; rfl; rfl) | (apply sk_i; rfl) | (apply sk_g; rfl; rfl)); (simp only [go_sem, Nat.reduceLT, Nat.reduceLeDiff, Nat.reduceEqDiff, Nat.reduceAdd, Nat.reduceSub, Nat.reduceMul, reduceIte, reduceCtorEq, h45, g1, e3] <;> rfl); (first | refine sk_id ?_ | refine cs_t ?_ | refine cs_f ?_ | refine gs_t rfl ?_ | refine gs_f rfl ?_)))
      exact sk_ret ⟨_, (by first | (simp only [aRet, Tryd.results74, aResults, aResult, go_sem, Nat.reduceLT, Nat.reduceLeDiff, Nat.reduceEqDiff, Nat.reduceAdd, Nat.reduceSub, Nat.reduceMul, reduceIte, reduceCtorEq] <;> rfl) | fail), rfl, kp _, by rw [firstIn, if_neg (by have := hr2 (by omega); omega)], rfl⟩
end Go.Proofs.YtophnlmdcidolaaDoor
