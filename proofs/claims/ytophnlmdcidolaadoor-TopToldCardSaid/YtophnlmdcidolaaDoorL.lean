import Derived.Test.YtophnlmdcidolaaDoorK
import Derived.Test.YtophnlmdcidolaaDoorJ
import Derived.Test.YtophnlmdcidolaaDoorD
import Derived.Test.YtophnlmdcidolaaDoorW
set_option linter.all false
namespace Go.Proofs.YtophnlmdcidolaaDoor
open Go Go.Am
set_option maxHeartbeats 8000000
set_option maxRecDepth 100000

theorem slTy49 : SlTy Tryd.prog 49 1 := ⟨9, (Tryd.prog.info? 9).get (by kernel_rfl), _, Tryd.underlying49, (Option.some_get _).symm, by kernel_rfl, Nat.le_of_ble_eq_true (by kernel_rfl), zo9, by kernel_rfl, by decide⟩

def prescanAV : Option (List Nat) → AV
  | none => .tuple [.str [], .bool false]
  | some n => .tuple [.str n, .bool true]
/-- coding, length of the mark, bad -/
def chosen (data tr : List Nat) (told : Option (List Nat)) : Nat × Nat × Bool :=
  if pre [239, 187, 191] data then (1, 3, false)
  else match (if tr = [] then told else some tr) with
    | none => (2, 0, false)
    | some n => if labelOf ((Am.tr B5 n).map low) = 0 then (2, 0, true) else (labelOf ((Am.tr B5 n).map low), 0, false)
def chosenAV (r : Nat × Nat × Bool) : AV := .tuple [.int .i64 r.1, .int .i64 r.2.1, .bool r.2.2]

theorem chosen_bad {data tr : List Nat} {told : Option (List Nat)} {n : List Nat} (hp : pre [239, 187, 191] data = false) (h : (if tr = [] then told else some tr) = some n) (hl : labelOf ((Am.tr B5 n).map low) = 0) : chosen data tr told = (2, 0, true) := by
  unfold chosen; rw [hp, h]; simp [hl]
theorem chosen_ok {data tr : List Nat} {told : Option (List Nat)} {n : List Nat} (hp : pre [239, 187, 191] data = false) (h : (if tr = [] then told else some tr) = some n) (hl : labelOf ((Am.tr B5 n).map low) ≠ 0) :
    chosen data tr told = (labelOf ((Am.tr B5 n).map low), 0, false) := by
  unfold chosen; rw [hp, h]; simp [hl]
theorem f8_tr (data tr : List Nat) (told : Option (List Nat)) (ht : ∀ c ∈ tr, c < 256) (htn : tr.length ≤ 1000000) (hto : ∀ n, told = some n → (∀ c ∈ n, c < 256) ∧ n.length ≤ 1000000)
    (h16 : ∀ σ, pre [239, 187, 191] data = false → tr = [] → Tr Tryd.prog 16 [.str data] σ fun v σ' => v = prescanAV told ∧ σ' = σ) (σ : AHeap) :
    Tr Tryd.prog 8 [.str data, .str tr] σ fun v σ' => v = chosenAV (chosen data tr told) ∧ σ' = σ := by
  refine sk_body (m := 33) Tryd.func8 rfl (by decide) rfl ?_
  have km : bytesOf { data := #[239, 187, 191] } = [239, 187, 191] := rfl
  cases hp : pre [239, 187, 191] data
  · by_cases htr : tr = []
    · have hA := fun σ => h16 σ hp htr
      subst htr
      cases told with
      | none =>
        repeat (first
          | refine sk_seq ?_
          | refine sk_region ?_
          | refine sk_ops_nil ?_
          | refine sk_block ?_
          | refine sk_blk ?_
          | refine sk_skip ?_
          | refine sk_exit rfl ?_
          | ((first | (apply sk_r; rfl; rfl) | (apply sk_w; rfl; rfl) | (apply sk_i; rfl) | (apply sk_g; rfl; rfl)); (simp only [go_sem, Nat.reduceLT, Nat.reduceLeDiff, Nat.reduceEqDiff, Nat.reduceAdd, Nat.reduceSub, Nat.reduceMul, reduceIte, reduceCtorEq, km, hp] <;> rfl); (first | refine sk_id ?_ | refine cs_t ?_ | refine cs_f ?_ | refine gs_t rfl ?_ | refine gs_f rfl ?_))
          | ((first | (apply sk_c; rfl; rfl)); (simp only [go_sem, Nat.reduceLT, Nat.reduceLeDiff, Nat.reduceEqDiff, Nat.reduceAdd, Nat.reduceSub, Nat.reduceMul, reduceIte, reduceCtorEq, km, hp] <;> rfl); (first
              | (refine (f17_tr data [239, 187, 191] _).mono ?_; rintro _ τ2 ⟨rfl, hτ2⟩; rw [hτ2, hp])
              | (refine (hA _).mono ?_; rintro _ τ2 ⟨rfl, hτ2⟩; rw [hτ2, prescanAV])); refine sk_id ?_))
        exact sk_ret ⟨_, (by first | (simp only [aRet, Tryd.results8, aResults, aResult, go_sem, Nat.reduceLT, Nat.reduceLeDiff, Nat.reduceEqDiff, Nat.reduceAdd, Nat.reduceSub, Nat.reduceMul, reduceIte, reduceCtorEq] <;> rfl) | fail), by (unfold chosen; rw [hp]; rfl), by rfl⟩
      | some nm =>
        have s18 := fun σ => f18_tr nm (hto nm rfl).1 (hto nm rfl).2 σ
        by_cases hl : labelOf ((Am.tr B5 nm).map low) = 0
        · have e1 : decide (labelOf ((Am.tr B5 nm).map low) ≠ 0) = false := decide_eq_false (by omega)
          repeat (first
            | refine sk_seq ?_
            | refine sk_region ?_
            | refine sk_ops_nil ?_
            | refine sk_block ?_
            | refine sk_blk ?_
            | refine sk_skip ?_
            | refine sk_exit rfl ?_
            | ((first | (apply sk_r; rfl; rfl) | (apply sk_w; rfl; rfl) | (apply sk_i; rfl) | (apply sk_g; rfl; rfl)); (simp only [go_sem, Nat.reduceLT, Nat.reduceLeDiff, Nat.reduceEqDiff, Nat.reduceAdd, Nat.reduceSub, Nat.reduceMul, reduceIte, reduceCtorEq, km, hp] <;> rfl); (first | refine sk_id ?_ | refine cs_t ?_ | refine cs_f ?_ | refine gs_t rfl ?_ | refine gs_f rfl ?_))
            | ((first | (apply sk_c; rfl; rfl)); (simp only [go_sem, Nat.reduceLT, Nat.reduceLeDiff, Nat.reduceEqDiff, Nat.reduceAdd, Nat.reduceSub, Nat.reduceMul, reduceIte, reduceCtorEq, km, hp] <;> rfl); (first
                | (refine (f17_tr data [239, 187, 191] _).mono ?_; rintro _ τ2 ⟨rfl, hτ2⟩; rw [hτ2, hp])
                | (refine (hA _).mono ?_; rintro _ τ2 ⟨rfl, hτ2⟩; rw [hτ2, prescanAV])
                | (refine (s18 _).mono ?_; rintro _ τ2 ⟨rfl, hτ2⟩; rw [hτ2, e1])); refine sk_id ?_))
          exact sk_ret ⟨_, (by first | (simp only [aRet, Tryd.results8, aResults, aResult, go_sem, Nat.reduceLT, Nat.reduceLeDiff, Nat.reduceEqDiff, Nat.reduceAdd, Nat.reduceSub, Nat.reduceMul, reduceIte, reduceCtorEq] <;> rfl) | fail), by (rw [chosen_bad hp rfl hl]; rfl), by rfl⟩
        · have e1 : decide (labelOf ((Am.tr B5 nm).map low) ≠ 0) = true := decide_eq_true (by omega)
          repeat (first
            | refine sk_seq ?_
            | refine sk_region ?_
            | refine sk_ops_nil ?_
            | refine sk_block ?_
            | refine sk_blk ?_
            | refine sk_skip ?_
            | refine sk_exit rfl ?_
            | ((first | (apply sk_r; rfl; rfl) | (apply sk_w; rfl; rfl) | (apply sk_i; rfl) | (apply sk_g; rfl; rfl)); (simp only [go_sem, Nat.reduceLT, Nat.reduceLeDiff, Nat.reduceEqDiff, Nat.reduceAdd, Nat.reduceSub, Nat.reduceMul, reduceIte, reduceCtorEq, km, hp] <;> rfl); (first | refine sk_id ?_ | refine cs_t ?_ | refine cs_f ?_ | refine gs_t rfl ?_ | refine gs_f rfl ?_))
            | ((first | (apply sk_c; rfl; rfl)); (simp only [go_sem, Nat.reduceLT, Nat.reduceLeDiff, Nat.reduceEqDiff, Nat.reduceAdd, Nat.reduceSub, Nat.reduceMul, reduceIte, reduceCtorEq, km, hp] <;> rfl); (first
                | (refine (f17_tr data [239, 187, 191] _).mono ?_; rintro _ τ2 ⟨rfl, hτ2⟩; rw [hτ2, hp])
                | (refine (hA _).mono ?_; rintro _ τ2 ⟨rfl, hτ2⟩; rw [hτ2, prescanAV])
                | (refine (s18 _).mono ?_; rintro _ τ2 ⟨rfl, hτ2⟩; rw [hτ2, e1])); refine sk_id ?_))
          exact sk_ret ⟨_, (by first | (simp only [aRet, Tryd.results8, aResults, aResult, go_sem, Nat.reduceLT, Nat.reduceLeDiff, Nat.reduceEqDiff, Nat.reduceAdd, Nat.reduceSub, Nat.reduceMul, reduceIte, reduceCtorEq] <;> rfl) | fail), by (rw [chosen_ok hp rfl hl]; rfl), by rfl⟩
    · have e0 : beqL tr [] = false := by rw [beqL_eq]; exact decide_eq_false htr
      have s18 := fun σ => f18_tr tr ht htn σ
      by_cases hl : labelOf ((Am.tr B5 tr).map low) = 0
      · have e1 : decide (labelOf ((Am.tr B5 tr).map low) ≠ 0) = false := decide_eq_false (by omega)
        repeat (first
          | refine sk_seq ?_
          | refine sk_region ?_
          | refine sk_ops_nil ?_
          | refine sk_block ?_
          | refine sk_blk ?_
          | refine sk_skip ?_
          | refine sk_exit rfl ?_
          | ((first | (apply sk_r; rfl; rfl) | (apply sk_w; rfl; rfl) | (apply sk_i; rfl) | (apply sk_g; rfl; rfl)); (simp only [go_sem, Nat.reduceLT, Nat.reduceLeDiff, Nat.reduceEqDiff, Nat.reduceAdd, Nat.reduceSub, Nat.reduceMul, reduceIte, reduceCtorEq, km, hp, bytes_nil, e0] <;> rfl); (first | refine sk_id ?_ | refine cs_t ?_ | refine cs_f ?_ | refine gs_t rfl ?_ | refine gs_f rfl ?_))
          | ((first | (apply sk_c; rfl; rfl)); (simp only [go_sem, Nat.reduceLT, Nat.reduceLeDiff, Nat.reduceEqDiff, Nat.reduceAdd, Nat.reduceSub, Nat.reduceMul, reduceIte, reduceCtorEq, km, hp, bytes_nil, e0] <;> rfl); (first
              | (refine (f17_tr data [239, 187, 191] _).mono ?_; rintro _ τ2 ⟨rfl, hτ2⟩; rw [hτ2, hp])
              | (refine (s18 _).mono ?_; rintro _ τ2 ⟨rfl, hτ2⟩; rw [hτ2, e1])); refine sk_id ?_))
        exact sk_ret ⟨_, (by first | (simp only [aRet, Tryd.results8, aResults, aResult, go_sem, Nat.reduceLT, Nat.reduceLeDiff, Nat.reduceEqDiff, Nat.reduceAdd, Nat.reduceSub, Nat.reduceMul, reduceIte, reduceCtorEq] <;> rfl) | fail), by (rw [chosen_bad hp (if_neg htr) hl]; rfl), by rfl⟩
      · have e1 : decide (labelOf ((Am.tr B5 tr).map low) ≠ 0) = true := decide_eq_true (by omega)
        repeat (first
          | refine sk_seq ?_
          | refine sk_region ?_
          | refine sk_ops_nil ?_
          | refine sk_block ?_
          | refine sk_blk ?_
          | refine sk_skip ?_
          | refine sk_exit rfl ?_
          | ((first | (apply sk_r; rfl; rfl) | (apply sk_w; rfl; rfl) | (apply sk_i; rfl) | (apply sk_g; rfl; rfl)); (simp only [go_sem, Nat.reduceLT, Nat.reduceLeDiff, Nat.reduceEqDiff, Nat.reduceAdd, Nat.reduceSub, Nat.reduceMul, reduceIte, reduceCtorEq, km, hp, bytes_nil, e0] <;> rfl); (first | refine sk_id ?_ | refine cs_t ?_ | refine cs_f ?_ | refine gs_t rfl ?_ | refine gs_f rfl ?_))
          | ((first | (apply sk_c; rfl; rfl)); (simp only [go_sem, Nat.reduceLT, Nat.reduceLeDiff, Nat.reduceEqDiff, Nat.reduceAdd, Nat.reduceSub, Nat.reduceMul, reduceIte, reduceCtorEq, km, hp, bytes_nil, e0] <;> rfl); (first
              | (refine (f17_tr data [239, 187, 191] _).mono ?_; rintro _ τ2 ⟨rfl, hτ2⟩; rw [hτ2, hp])
              | (refine (s18 _).mono ?_; rintro _ τ2 ⟨rfl, hτ2⟩; rw [hτ2, e1])); refine sk_id ?_))
        exact sk_ret ⟨_, (by first | (simp only [aRet, Tryd.results8, aResults, aResult, go_sem, Nat.reduceLT, Nat.reduceLeDiff, Nat.reduceEqDiff, Nat.reduceAdd, Nat.reduceSub, Nat.reduceMul, reduceIte, reduceCtorEq] <;> rfl) | fail), by (rw [chosen_ok hp (if_neg htr) hl]; rfl), by rfl⟩
  · repeat (first
      | refine sk_seq ?_
      | refine sk_region ?_
      | refine sk_ops_nil ?_
      | refine sk_block ?_
      | refine sk_blk ?_
      | refine sk_skip ?_
      | refine sk_exit rfl ?_
      | ((first | (apply sk_r; rfl; rfl) | (apply sk_w; rfl; rfl) | (apply sk_i; rfl) | (apply sk_g; rfl; rfl)); (simp only [go_sem, Nat.reduceLT, Nat.reduceLeDiff, Nat.reduceEqDiff, Nat.reduceAdd, Nat.reduceSub, Nat.reduceMul, reduceIte, reduceCtorEq, km, hp] <;> rfl); (first | refine sk_id ?_ | refine cs_t ?_ | refine cs_f ?_ | refine gs_t rfl ?_ | refine gs_f rfl ?_))
      | ((first | (apply sk_c; rfl; rfl)); (simp only [go_sem, Nat.reduceLT, Nat.reduceLeDiff, Nat.reduceEqDiff, Nat.reduceAdd, Nat.reduceSub, Nat.reduceMul, reduceIte, reduceCtorEq, km, hp] <;> rfl); (first
          | (refine (f17_tr data [239, 187, 191] _).mono ?_; rintro _ τ2 ⟨rfl, hτ2⟩; rw [hτ2, hp])); refine sk_id ?_))
    exact sk_ret ⟨_, (by first | (simp only [aRet, Tryd.results8, aResults, aResult, go_sem, Nat.reduceLT, Nat.reduceLeDiff, Nat.reduceEqDiff, Nat.reduceAdd, Nat.reduceSub, Nat.reduceMul, reduceIte, reduceCtorEq] <;> rfl) | fail), by (unfold chosen; rw [hp]; rfl), by rfl⟩
end Go.Proofs.YtophnlmdcidolaaDoor
namespace Go.Proofs.YtophnlmdcidolaaDoor
open Go Go.Am
set_option maxHeartbeats 8000000
set_option maxRecDepth 100000

/-- a letter of a name -/
def okc (c : Nat) : Prop := (97 ≤ c ∧ c ≤ 122) ∨ (48 ≤ c ∧ c ≤ 57) ∨ c = 45
theorem not_in {S : List Nat} {c : Nat} (h : c ∉ S) : isIn S c = false := by
  cases e : isIn S c
  · rfl
  · exact absurd ((isIn_iff S c).1 e) h
theorem okc_blank {c : Nat} (h : okc c) : isIn [9, 10, 12, 13, 32] c = false := not_in (by unfold okc at h; simp; omega)
theorem okc_end {c : Nat} (h : okc c) : (!isIn [62, 9, 10, 12, 13, 32] c) = true := isIn_not (by unfold okc at h; simp; omega)
theorem okc_low {c : Nat} (h : okc c) : low c = c := low_up (by unfold okc at h; omega)
theorem okc_lt {c : Nat} (h : okc c) : c < 256 := by unfold okc at h; omega
theorem map_low {l : List Nat} (h : ∀ c ∈ l, okc c) : l.map low = l := by
  have e : l.map low = l.map id := List.map_congr_left fun c hc => okc_low (h c hc)
  rw [e, List.map_id]
theorem tr_ok {l : List Nat} (h : ∀ c ∈ l, okc c) : Am.tr B5 l = l := by
  unfold Am.tr rt
  rw [rt_id fun c hc => okc_blank (h c hc)]
  exact dw_id fun c hc => okc_blank (h c hc)

/-- a document that begins with a meta element -/
def docT (name rest : List Nat) : List Nat := [60, 109, 101, 116, 97, 32, 99, 104, 97, 114, 115, 101, 116, 61] ++ (name ++ 62 :: rest)
theorem docT_len (name rest : List Nat) : (docT name rest).length = 15 + name.length + rest.length := by
  unfold docT; simp only [List.length_append, List.length_cons, List.length_nil]; omega
theorem docT_end (name rest : List Nat) : (docT name rest)[14 + name.length]? = some 62 := by
  unfold docT
  rw [List.getElem?_append_right (by simp), List.getElem?_append_right (by simp)]
  simp

theorem attr1 {name rest : List Nat} (h : ∀ c ∈ name, okc c) (h0 : name ≠ []) : attrOf (docT name rest) 5 = ([99, 104, 97, 114, 115, 101, 116], name, 14 + name.length, true) := by
  have e1 : run (isIn [9, 10, 12, 13, 32, 47]) (docT name rest) 5 = 6 :=
    run_seg (p := isIn [9, 10, 12, 13, 32, 47]) (x := [32]) (c := 99) (y := [104, 97, 114, 115, 101, 116, 61] ++ (name ++ 62 :: rest)) (by decide) (by decide) [60, 109, 101, 116, 97]
  have e2 : nameEnd (docT name rest) 7 = 13 :=
    run_seg (p := fun c => !isIn [61, 47, 62, 9, 10, 12, 13, 32] c) (x := [104, 97, 114, 115, 101, 116]) (c := 61) (y := name ++ 62 :: rest) (by decide) (by decide) [60, 109, 101, 116, 97, 32, 99]
  have d6 : (docT name rest)[6]? = some 99 := rfl
  have d13 : (docT name rest)[13]? = some 61 := rfl
  have e3 : blankEnd (docT name rest) 13 = 13 := run_stop d13 (by decide)
  obtain ⟨q, t, rfl⟩ : ∃ q t, name = q :: t := by
    cases name with
    | nil => exact absurd rfl h0
    | cons q t => exact ⟨q, t, rfl⟩
  have hq := h q (by simp)
  have d14 : (docT (q :: t) rest)[14]? = some q := rfl
  have e4 : blankEnd (docT (q :: t) rest) 14 = 14 := run_stop d14 (okc_blank hq)
  have e5 : run (fun c => !isIn [62, 9, 10, 12, 13, 32] c) (docT (q :: t) rest) 14 = 14 + (q :: t).length :=
    run_seg (p := fun c => !isIn [62, 9, 10, 12, 13, 32] c) (x := q :: t) (c := 62) (y := rest) (fun b hb => okc_end (h b hb)) (by decide) [60, 109, 101, 116, 97, 32, 99, 104, 97, 114, 115, 101, 116, 61]
  have hl := docT_len (q :: t) rest
  have e6 : ((docT (q :: t) rest).take (14 + (q :: t).length)).drop 14 = q :: t := by
    rw [List.drop_take, show 14 + (q :: t).length - 14 = (q :: t).length by omega]
    show ((q :: t) ++ 62 :: rest).take (q :: t).length = q :: t
    exact List.take_left
  have e7 : valueAt (docT (q :: t) rest) 14 = some (q :: t, 14 + (q :: t).length) := by
    unfold valueAt
    rw [d14]
    simp only
    rw [if_neg (by unfold okc at hq; omega), if_neg (by unfold okc at hq; omega), e5, if_pos (by omega), e6, map_low h]
  have e8 : ((((docT (q :: t) rest).take 13).drop 6).map low) = [99, 104, 97, 114, 115, 101, 116] := by
    show ([99, 104, 97, 114, 115, 101, 116] : List Nat).map low = _
    decide
  unfold attrOf
  rw [e1, d6]
  simp only
  rw [if_neg (by omega), e2, d13]
  simp only
  rw [e3, d13, if_pos rfl, e4, e7]
  simp only
  rw [e8]

theorem attr2 (name rest : List Nat) : attrOf (docT name rest) (14 + name.length) = ([], [], 14 + name.length, false) := by
  have e1 : run (isIn [9, 10, 12, 13, 32, 47]) (docT name rest) (14 + name.length) = 14 + name.length := run_stop (docT_end name rest) (by decide)
  unfold attrOf
  rw [e1, docT_end]
  rfl

@[go_sem] theorem bs49 (σ : AHeap) (x : List Nat) : aBuildSlice Tryd.prog σ 49 1 [(0, .str x)] = some (.slice σ.next 0 1 1 true 1, σ.push (.cells [.str x] false 0 [])) := by kernel_rfl

theorem f34_sp (name rest : List Nat) (h : ∀ c ∈ name, okc c) (hne : name ≠ []) (hr : ∀ c ∈ docT name rest, c < 256) (hl : (docT name rest).length ≤ 1000000) (σ : AHeap) :
    Tr Tryd.prog 34 [.str (docT name rest), .int .i64 5] σ fun v σ' => v = .tuple [.str name, .int .i64 (14 + name.length : Nat)] ∧ σ' = σ := by
  refine Tr.wf fun hW => Tr.pure ?_
  refine sk_body (m := 86) Tryd.func34 rfl (by decide) rfl ?_
  have hlen := docT_len name rest
  have sA := fun σ => f49_tr 5 (docT name rest) hr (by omega) hl σ
  have sB := fun σ => f49_tr (14 + name.length) (docT name rest) hr (by omega) hl σ
  rw [attr1 h hne] at sA
  rw [attr2] at sB
  generalize docT name rest = d at *
  have b0 : beqL name [] = false := by rw [beqL_eq]; exact decide_eq_false hne
  have s37 := fun σ => f37_tr name (fun c hc => okc_lt (h c hc)) (by omega) σ
  rw [tr_ok h] at s37
  repeat (first
    | refine sk_seq ?_
    | refine sk_region ?_
    | refine sk_ops_nil ?_
    | refine sk_block ?_
    | refine sk_blk ?_
    | refine sk_skip ?_
    | refine sk_exit rfl ?_
    | ((first | (apply sk_r; rfl; rfl) | (apply sk_w; rfl; rfl) | (apply sk_i; rfl) | (apply sk_g; rfl; rfl)); (simp only [go_sem, Nat.reduceLT, Nat.reduceLeDiff, Nat.reduceEqDiff, Nat.reduceAdd, Nat.reduceSub, Nat.reduceMul, reduceIte, reduceCtorEq] <;> rfl); (first | refine sk_id ?_ | refine cs_t ?_ | refine cs_f ?_ | refine gs_t rfl ?_ | refine gs_f rfl ?_)))
  refine sk_loop (fun m fr σ' => σ.next ≤ σ'.next ∧ (∀ b y, σ.m.get b = some y → σ'.m.get b = some y) ∧ fget fr 0 = .str d ∧ fget fr 8 = .bool false ∧ fget fr 9 = .bool false ∧ ((m = 1 ∧ fget fr 1 = .int .i64 5 ∧ fget fr 6 = .nilslice) ∨ (m = 0 ∧ fget fr 1 = .int .i64 (14 + name.length : Nat) ∧ fget fr 7 = .str name)))
    1 ⟨Nat.le_refl _, fun _ _ h => h, (by first | (simp only [go_sem, Nat.reduceLT, Nat.reduceLeDiff, Nat.reduceEqDiff, Nat.reduceAdd, Nat.reduceSub, Nat.reduceMul, reduceIte, reduceCtorEq] <;> rfl) | fail), (by first | (simp only [go_sem, Nat.reduceLT, Nat.reduceLeDiff, Nat.reduceEqDiff, Nat.reduceAdd, Nat.reduceSub, Nat.reduceMul, reduceIte, reduceCtorEq] <;> rfl) | fail), (by first | (simp only [go_sem, Nat.reduceLT, Nat.reduceLeDiff, Nat.reduceEqDiff, Nat.reduceAdd, Nat.reduceSub, Nat.reduceMul, reduceIte, reduceCtorEq] <;> rfl) | fail), .inl ⟨rfl, (by first | (simp only [go_sem, Nat.reduceLT, Nat.reduceLeDiff, Nat.reduceEqDiff, Nat.reduceAdd, Nat.reduceSub, Nat.reduceMul, reduceIte, reduceCtorEq] <;> rfl) | fail), (by first | (simp only [go_sem, Nat.reduceLT, Nat.reduceLeDiff, Nat.reduceEqDiff, Nat.reduceAdd, Nat.reduceSub, Nat.reduceMul, reduceIte, reduceCtorEq] <;> rfl) | fail)⟩⟩ ?_
  rintro m fr τ ⟨hn, hk, h0, h8, h9, ⟨rfl, h1, h6⟩ | ⟨rfl, h1, h7⟩⟩
  · repeat (first
      | refine sk_seq ?_
      | refine sk_region ?_
      | refine sk_ops_nil ?_
      | refine sk_block ?_
      | refine sk_blk ?_
      | refine sk_skip ?_
      | refine sk_exit rfl ?_
      | ((first | (apply sk_r; rfl; rfl) | (apply sk_w; rfl; rfl) | (apply sk_i; rfl) | (apply sk_g; rfl; rfl)); (simp only [go_sem, Nat.reduceLT, Nat.reduceLeDiff, Nat.reduceEqDiff, Nat.reduceAdd, Nat.reduceSub, Nat.reduceMul, reduceIte, reduceCtorEq, h0, h1, h6, h8, h9] <;> rfl); (first | refine sk_id ?_ | refine cs_t ?_ | refine cs_f ?_ | refine gs_t rfl ?_ | refine gs_f rfl ?_))
      | ((first | (apply sk_c; rfl; rfl)); (simp only [go_sem, Nat.reduceLT, Nat.reduceLeDiff, Nat.reduceEqDiff, Nat.reduceAdd, Nat.reduceSub, Nat.reduceMul, reduceIte, reduceCtorEq, h0, h1, h6, h8, h9] <;> rfl); (first
          | (refine (sA _).mono ?_; rintro _ τ2 ⟨rfl, hτ2⟩; rw [hτ2, attrAV])); refine sk_id ?_))
    refine sk_once ?_
    have a1 := app_first (σ := (τ.push (.cells [.str [99, 104, 97, 114, 115, 101, 116], .str name] false 0 [])).push (.cells [.str [99, 104, 97, 114, 115, 101, 116]] false 0 [])) slTy49 rfl (get_push_same (τ.push (.cells [.str [99, 104, 97, 114, 115, 101, 116], .str name] false 0 [])) _)
    simp only [next_push] at a1
    have g1 : (((τ.push (.cells [.str [99, 104, 97, 114, 115, 101, 116], .str name] false 0 [])).push (.cells [.str [99, 104, 97, 114, 115, 101, 116]] false 0 [])).push (.cells [.str [99, 104, 97, 114, 115, 101, 116]] false 0 [])).m.get τ.next = some (.cells [.str [99, 104, 97, 114, 115, 101, 116], .str name] false 0 []) := by
      rw [get_push, if_neg (by simp only [next_push]; omega), get_push, if_neg (by simp only [next_push]; omega), get_push_same]
    repeat (first
      | refine sk_seq ?_
      | refine sk_region ?_
      | refine sk_ops_nil ?_
      | refine sk_block ?_
      | refine sk_blk ?_
      | refine sk_skip ?_
      | refine sk_exit rfl ?_
      | ((first | (apply sk_r; rfl; rfl) | (apply sk_w; rfl; rfl) | (apply sk_i; rfl) | (apply sk_g; rfl; rfl)); (simp only [go_sem, Nat.reduceLT, Nat.reduceLeDiff, Nat.reduceEqDiff, Nat.reduceAdd, Nat.reduceSub, Nat.reduceMul, reduceIte, reduceCtorEq, h0, h1, h6, h8, h9, a1, g1] <;> rfl); (first | refine sk_id ?_ | refine cs_t ?_ | refine cs_f ?_ | refine gs_t rfl ?_ | refine gs_f rfl ?_)))
    exact sk_stop ⟨0, by omega, by simp only [next_push]; omega, keep_push hW (by simp only [next_push]; omega) (keep_push hW (by simp only [next_push]; omega) (keep_push hW hn hk)), (by first | (simp only [go_sem, Nat.reduceLT, Nat.reduceLeDiff, Nat.reduceEqDiff, Nat.reduceAdd, Nat.reduceSub, Nat.reduceMul, reduceIte, reduceCtorEq, h0] <;> rfl) | fail), (by first | (simp only [go_sem, Nat.reduceLT, Nat.reduceLeDiff, Nat.reduceEqDiff, Nat.reduceAdd, Nat.reduceSub, Nat.reduceMul, reduceIte, reduceCtorEq, h8] <;> rfl) | fail), (by first | (simp only [go_sem, Nat.reduceLT, Nat.reduceLeDiff, Nat.reduceEqDiff, Nat.reduceAdd, Nat.reduceSub, Nat.reduceMul, reduceIte, reduceCtorEq, h9] <;> rfl) | fail), .inr ⟨rfl, (by first | (simp only [go_sem, Nat.reduceLT, Nat.reduceLeDiff, Nat.reduceEqDiff, Nat.reduceAdd, Nat.reduceSub, Nat.reduceMul, reduceIte, reduceCtorEq] <;> rfl) | fail), (by first | (simp only [go_sem, Nat.reduceLT, Nat.reduceLeDiff, Nat.reduceEqDiff, Nat.reduceAdd, Nat.reduceSub, Nat.reduceMul, reduceIte, reduceCtorEq] <;> rfl) | fail)⟩⟩
  · repeat (first
      | refine sk_seq ?_
      | refine sk_region ?_
      | refine sk_ops_nil ?_
      | refine sk_block ?_
      | refine sk_blk ?_
      | refine sk_skip ?_
      | refine sk_exit rfl ?_
      | ((first | (apply sk_r; rfl; rfl) | (apply sk_w; rfl; rfl) | (apply sk_i; rfl) | (apply sk_g; rfl; rfl)); (simp only [go_sem, Nat.reduceLT, Nat.reduceLeDiff, Nat.reduceEqDiff, Nat.reduceAdd, Nat.reduceSub, Nat.reduceMul, reduceIte, reduceCtorEq, h0, h1, h7, h8, h9, bytes_nil, b0] <;> rfl); (first | refine sk_id ?_ | refine cs_t ?_ | refine cs_f ?_ | refine gs_t rfl ?_ | refine gs_f rfl ?_))
      | ((first | (apply sk_c; rfl; rfl)); (simp only [go_sem, Nat.reduceLT, Nat.reduceLeDiff, Nat.reduceEqDiff, Nat.reduceAdd, Nat.reduceSub, Nat.reduceMul, reduceIte, reduceCtorEq, h0, h1, h7, h8, h9, bytes_nil, b0] <;> rfl); (first
          | (refine (sB _).mono ?_; rintro _ τ2 ⟨rfl, hτ2⟩; rw [hτ2, attrAV])
          | (refine (s37 _).mono ?_; rintro _ τ2 ⟨rfl, hτ2⟩; rw [hτ2])); refine sk_id ?_))
    exact sk_ret ⟨_, (by first | (simp only [aRet, Tryd.results34, aResults, aResult, go_sem, Nat.reduceLT, Nat.reduceLeDiff, Nat.reduceEqDiff, Nat.reduceAdd, Nat.reduceSub, Nat.reduceMul, reduceIte, reduceCtorEq] <;> rfl) | fail), rfl, keep_push hW hn hk, rfl, rfl⟩
end Go.Proofs.YtophnlmdcidolaaDoor
namespace Go.Proofs.YtophnlmdcidolaaDoor
open Go Go.Am
set_option maxHeartbeats 8000000
set_option maxRecDepth 100000

theorem docT_take {name : List Nat} (data : List Nat) (h : name.length ≤ 60) : (docT name data).take 1024 = docT name (data.take (1009 - name.length)) := by
  unfold docT
  rw [List.take_append, List.take_append]
  simp only [List.length_cons, List.length_nil]
  rw [List.take_of_length_le (by simp only [List.length_cons, List.length_nil]; omega), List.take_of_length_le (l := name) (by omega)]
  rw [show 1024 - (0 + 1 + 1 + 1 + 1 + 1 + 1 + 1 + 1 + 1 + 1 + 1 + 1 + 1 + 1) - name.length = (1009 - name.length) + 1 by omega]
  rfl

theorem f16_sp (name data : List Nat) (h : ∀ c ∈ name, okc c) (hne : name ≠ []) (hn : name.length ≤ 60) (hd : ∀ c ∈ data, c < 256) (σ : AHeap) :
    Tr Tryd.prog 16 [.str (docT name data)] σ fun v σ' => v = prescanAV (some name) ∧ σ' = σ := by
  refine sk_body (m := 60) Tryd.func16 rfl (by decide) rfl ?_
  obtain ⟨d, hdd⟩ : ∃ d, d = docT name (data.take (1009 - name.length)) := ⟨_, rfl⟩
  have hL := docT_len name data
  have hl : d.length = 15 + name.length + (data.take (1009 - name.length)).length := by rw [hdd, docT_len]
  rw [List.length_take] at hl
  have hr : ∀ c ∈ d, c < 256 := by
    intro c hc
    rw [hdd] at hc
    unfold docT at hc
    rcases List.mem_append.1 hc with hc | hc
    · exact (by decide : ∀ c ∈ [60, 109, 101, 116, 97, 32, 99, 104, 97, 114, 115, 101, 116, 61], c < 256) c hc
    · rcases List.mem_append.1 hc with hc | hc
      · exact okc_lt (h c hc)
      · rcases List.mem_cons.1 hc with rfl | hc
        · decide
        · exact hd c (List.mem_of_mem_take hc)
  have d6 : d.take 6 = [60, 109, 101, 116, 97, 32] := by rw [hdd]; rfl
  have eT : (docT name data).take 1024 = d := by rw [docT_take data hn, hdd]
  have s34 := fun σ => f34_sp name (data.take (1009 - name.length)) h hne (by rw [← hdd]; exact hr) (by rw [← hdd]; omega) σ
  rw [← hdd] at s34
  generalize docT name data = D at *
  obtain ⟨M, hM, hM2⟩ : ∃ M, M = min 1024 D.length ∧ D.take M = d := by
    refine ⟨_, rfl, ?_⟩
    rcases Nat.le_total 1024 D.length with e | e
    · rw [Nat.min_eq_left e, eT]
    · rw [Nat.min_eq_right e, ← eT, List.take_of_length_le (Nat.le_refl _), List.take_of_length_le e]
  have emin : (if (1024 : Int) < (D.length : Int) then (1024 : Int) else (D.length : Int)) = ((M : Nat) : Int) := by split <;> omega
  have a0 : (0 : Int) ≤ (M : Int) := by omega
  have a2 : (M : Int) ≤ (D.length : Int) := by omega
  repeat (first
    | refine sk_seq ?_
    | refine sk_region ?_
    | refine sk_ops_nil ?_
    | refine sk_block ?_
    | refine sk_blk ?_
    | refine sk_skip ?_
    | refine sk_exit rfl ?_
    | ((first | (apply sk_r; rfl; rfl) | (apply sk_w; rfl; rfl) | (apply sk_i; rfl) | (apply sk_g; rfl; rfl)); (simp only [go_sem, Nat.reduceLT, Nat.reduceLeDiff, Nat.reduceEqDiff, Nat.reduceAdd, Nat.reduceSub, Nat.reduceMul, reduceIte, reduceCtorEq, aFold, aMin2, emin, a0, a2, and_self, List.drop_zero, hM2] <;> rfl); (first | refine sk_id ?_ | refine cs_t ?_ | refine cs_f ?_ | refine gs_t rfl ?_ | refine gs_f rfl ?_)))
  refine sk_once ?_
  have e1 : decide ((0 : Int) < (d.length : Int)) = true := decide_eq_true (by omega)
  have e2 : IntKind.wrap .i64 (0 + 6) = 6 := by decide
  have e3 : ((d.length : Int) < 6) = False := eq_false (by omega)
  have e4 : (6 : Int) ≤ (d.length : Int) := by omega
  have e5 : Int.toNat 6 = 6 := rfl
  have e6 : Int.toNat 0 = 0 := rfl
  have e7 : IntKind.wrap .i64 (0 + 5) = 5 := by decide
  have em : ([60, 109, 101, 116, 97, 32] : List Nat).map low = [60, 109, 101, 116, 97, 32] := by decide
  have e8 : (0 : Int) ≤ 6 := by decide
  have b0 : beqL name [] = false := by rw [beqL_eq]; exact decide_eq_false hne
  repeat (first
    | refine sk_seq ?_
    | refine sk_region ?_
    | refine sk_ops_nil ?_
    | refine sk_block ?_
    | refine sk_blk ?_
    | refine sk_skip ?_
    | refine sk_exit rfl ?_
    | ((first | (apply sk_r; rfl; rfl) | (apply sk_w; rfl; rfl) | (apply sk_i; rfl) | (apply sk_g; rfl; rfl)); (simp only [go_sem, Nat.reduceLT, Nat.reduceLeDiff, Nat.reduceEqDiff, Nat.reduceAdd, Nat.reduceSub, Nat.reduceMul, reduceIte, reduceCtorEq, e1, e2, e3, e4, e5, e6, e7, e8, d6, aFold, aMin2, and_self, Int.le_refl, List.drop_zero, bytes_nil, b0, Bool.not_false] <;> rfl); (first | refine sk_id ?_ | refine cs_t ?_ | refine cs_f ?_ | refine gs_t rfl ?_ | refine gs_f rfl ?_))
    | ((first | (apply sk_c; rfl; rfl)); (simp only [go_sem, Nat.reduceLT, Nat.reduceLeDiff, Nat.reduceEqDiff, Nat.reduceAdd, Nat.reduceSub, Nat.reduceMul, reduceIte, reduceCtorEq, e1, e2, e3, e4, e5, e6, e7, e8, d6, aFold, aMin2, and_self, Int.le_refl, List.drop_zero, bytes_nil, b0, Bool.not_false] <;> rfl); (first
        | (refine (f32_tr [60, 109, 101, 116, 97, 32] (by decide) (by decide) _).mono ?_; rintro _ τ2 ⟨rfl, hτ2⟩; rw [hτ2, em])
        | (refine (f33_tr 32 (by decide) _).mono ?_; rintro _ τ2 ⟨rfl, hτ2⟩; rw [hτ2])
        | (refine (s34 _).mono ?_; rintro _ τ2 ⟨rfl, hτ2⟩; rw [hτ2])); refine sk_id ?_))
  exact sk_ret ⟨_, (by first | (simp only [aRet, Tryd.results16, aResults, aResult, go_sem, Nat.reduceLT, Nat.reduceLeDiff, Nat.reduceEqDiff, Nat.reduceAdd, Nat.reduceSub, Nat.reduceMul, reduceIte, reduceCtorEq] <;> rfl) | fail), by rfl, by rfl⟩
end Go.Proofs.YtophnlmdcidolaaDoor
