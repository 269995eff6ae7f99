import Derived.Test.YtophnlmdcidolaaDoorP11
import Derived.Test.YtophnlmdcidolaaDoorS
import Derived.Test.YtophnlmdcidolaaDoorJ3
set_option linter.all false
namespace Go.Am
abbrev kEquiv : List Nat := [104, 116, 116, 112, 45, 101, 113, 117, 105, 118]
abbrev kType : List Nat := [99, 111, 110, 116, 101, 110, 116, 45, 116, 121, 112, 101]
abbrev kCont : List Nat := [99, 111, 110, 116, 101, 110, 116]
/-- what a meta element has told so far -/
structure MS where
  seen : List (List Nat)
  name : List Nat
  pragma : Bool
  wanted : Bool
def metaStep (s : MS) (n v : List Nat) : MS :=
  if n ∈ s.seen then s
  else if n = kEquiv then ⟨s.seen ++ [n], s.name, decide (v = kType), s.wanted⟩
  else if n = kCont then (match charsetOf v with
    | none => ⟨s.seen ++ [n], s.name, s.pragma, s.wanted⟩
    | some c => if s.name = [] then ⟨s.seen ++ [n], c, s.pragma, true⟩ else ⟨s.seen ++ [n], s.name, s.pragma, s.wanted⟩)
  else if n = W7 then ⟨s.seen ++ [n], v, s.pragma, false⟩
  else ⟨s.seen ++ [n], s.name, s.pragma, s.wanted⟩
end Go.Am
namespace Go.Proofs.YtophnlmdcidolaaDoor
open Go Go.Am
def metaGo (d : List Nat) : Nat → Nat → MS → MS × Nat
  | 0, at_, s => (s, at_)
  | f + 1, at_, s => if (attrOf d at_).2.2.2 = true then metaGo d f (attrOf d at_).2.2.1 (metaStep s (attrOf d at_).1 (attrOf d at_).2.1) else (s, (attrOf d at_).2.2.1)
def metaOf (d : List Nat) (at_ : Nat) : List Nat × Nat :=
  if ((metaGo d (d.length + 1) at_ ⟨[], [], false, false⟩).1.wanted && !(metaGo d (d.length + 1) at_ ⟨[], [], false, false⟩).1.pragma) = true ∨ Am.tr B5 (metaGo d (d.length + 1) at_ ⟨[], [], false, false⟩).1.name = [] then ([], (metaGo d (d.length + 1) at_ ⟨[], [], false, false⟩).2)
  else ((metaGo d (d.length + 1) at_ ⟨[], [], false, false⟩).1.name, (metaGo d (d.length + 1) at_ ⟨[], [], false, false⟩).2)
def metaAV (r : List Nat × Nat) : AV := .tuple [.str r.1, .int .i64 (r.2 : Nat)]

/-- bytes, not more than n -/
def Ok (n : Nat) (l : List Nat) : Prop := (∀ c ∈ l, c < 256) ∧ l.length ≤ n
theorem ok_nil (n : Nat) : Ok n [] := ⟨by simp, Nat.zero_le _⟩
theorem ok_piece {d : List Nat} (hd : ∀ c ∈ d, c < 256) (a b : Nat) : Ok d.length (((d.take a).drop b).map low) := by
  refine ⟨fun c hc => ?_, by rw [List.length_map, List.length_drop, List.length_take]; omega⟩
  obtain ⟨x, hx, rfl⟩ := List.mem_map.1 hc
  exact low_lt (hd x (List.mem_of_mem_take (List.mem_of_mem_drop hx)))
theorem ok_value {d : List Nat} (hd : ∀ c ∈ d, c < 256) {k e : Nat} {s : List Nat} (h : valueAt d k = some (s, e)) : Ok d.length s := by
  unfold valueAt at h
  split at h
  · cases h
  · split at h
    · split at h
      · cases h; exact ok_piece hd _ _
      · cases h
    · split at h
      · cases h; exact ok_nil _
      · split at h
        · cases h; exact ok_piece hd _ _
        · cases h
theorem attr_all {d : List Nat} {k : Nat} (hd : ∀ c ∈ d, c < 256) (hk : k ≤ d.length) : Ok d.length (attrOf d k).1 ∧ Ok d.length (attrOf d k).2.1 ∧ k ≤ (attrOf d k).2.2.1 ∧ (attrOf d k).2.2.1 ≤ d.length := by
  cases hb : (attrOf d k).2.2.2
  · have h1 := run_ge (isIn [9, 10, 12, 13, 32, 47]) d k
    have h2 := run_le (p := isIn [9, 10, 12, 13, 32, 47]) hk
    unfold attrOf at hb ⊢
    split
    · exact ⟨ok_nil _, ok_nil _, h1, h2⟩
    · rename_i c hc
      rw [hc] at hb
      simp only at hb
      split
      · exact ⟨ok_nil _, ok_nil _, h1, h2⟩
      · rename_i h62
        rw [if_neg h62] at hb
        split
        · exact ⟨ok_nil _, ok_nil _, hk, Nat.le_refl _⟩
        · rename_i y hy
          rw [hy] at hb
          simp only at hb
          split
          · rename_i h61
            rw [if_pos h61] at hb
            split
            · exact ⟨ok_nil _, ok_nil _, hk, Nat.le_refl _⟩
            · rename_i s e hv
              rw [hv] at hb
              cases hb
          · rename_i h61
            rw [if_neg h61] at hb
            cases hb
  · obtain ⟨e1, e2⟩ := attr_end hk hb
    refine ⟨?_, ?_, by omega, e2⟩
    · unfold attrOf
      split
      · exact ok_nil _
      · split
        · exact ok_nil _
        · split
          · exact ok_nil _
          · split
            · split
              · exact ok_nil _
              · exact ok_piece hd _ _
            · exact ok_piece hd _ _
    · unfold attrOf
      split
      · exact ok_nil _
      · split
        · exact ok_nil _
        · split
          · exact ok_nil _
          · split
            · split
              · exact ok_nil _
              · rename_i hv; exact ok_value hd hv
            · exact ok_nil _
theorem ok_charset {n : Nat} {l c : List Nat} (h : Ok n l) (hc : charsetOf l = some c) : Ok n c := by
  unfold charsetOf at hc
  cases hg : csGo (l.length + 1) l with
  | none => rw [hg] at hc; cases hc
  | some r =>
    rw [hg] at hc
    simp only at hc
    have hs := csGo_sub hg
    have hr : Ok n r := ⟨fun c hc => h.1 c (hs.1 c hc), Nat.le_trans hs.2 h.2⟩
    cases r with
    | nil => cases hc
    | cons q t =>
      have ht : ∀ i, Ok n (t.take i) := fun i => ⟨fun c hc => hr.1 c (by simp [List.mem_of_mem_take hc]), by have := hr.2; simp at this; rw [List.length_take]; omega⟩
      have hqt : ∀ i, Ok n ((q :: t).take i) := fun i => ⟨fun c hc => hr.1 c (List.mem_of_mem_take hc), by have := hr.2; rw [List.length_take]; omega⟩
      by_cases hq : q = 34 ∨ q = 39
      · rw [csName_quote hq] at hc
        split at hc
        · cases hc
        · cases hc; exact ht _
      · rw [csName_plain hq] at hc
        split at hc
        · cases hc; exact hqt _
        · cases hc; exact hr
theorem ok_step {k : Nat} {s : MS} {n v : List Nat} (h : Ok k s.name) (hv : Ok k v) : Ok k (metaStep s n v).name := by
  unfold metaStep
  split
  · exact h
  · split
    · exact h
    · split
      · cases hc : charsetOf v with
        | none => exact h
        | some c =>
          simp only
          split
          · exact ok_charset hv hc
          · exact h
      · split
        · exact hv
        · exact h
theorem metaGo_all {d : List Nat} (hd : ∀ c ∈ d, c < 256) : ∀ (f k : Nat) (s : MS), k ≤ d.length → Ok d.length s.name → Ok d.length (metaGo d f k s).1.name ∧ k ≤ (metaGo d f k s).2 ∧ (metaGo d f k s).2 ≤ d.length
  | 0, k, s, hk, hs => ⟨hs, Nat.le_refl _, hk⟩
  | f + 1, k, s, hk, hs => by
    obtain ⟨h1, h2, h3, h4⟩ := attr_all hd hk
    unfold metaGo
    split
    · have ih := metaGo_all hd f _ (metaStep s (attrOf d k).1 (attrOf d k).2.1) h4 (ok_step hs h2)
      exact ⟨ih.1, by omega, ih.2.2⟩
    · exact ⟨hs, h3, h4⟩
theorem metaOf_all {d : List Nat} (hd : ∀ c ∈ d, c < 256) {k : Nat} (hk : k ≤ d.length) : Ok d.length (metaOf d k).1 ∧ k ≤ (metaOf d k).2 ∧ (metaOf d k).2 ≤ d.length := by
  have := metaGo_all hd (d.length + 1) k ⟨[], [], false, false⟩ hk (ok_nil _)
  unfold metaOf
  split
  · exact ⟨ok_nil _, this.2⟩
  · exact this
end Go.Proofs.YtophnlmdcidolaaDoor
namespace Go.Proofs.YtophnlmdcidolaaDoor
open Go Go.Am
set_option maxHeartbeats 8000000
set_option maxRecDepth 100000
@[go_sem] theorem bs49m (σ : AHeap) (x : List Nat) : aBuildSlice Tryd.prog σ 49 1 [(0, .str x)] = some (.slice σ.next 0 1 1 true 1, σ.push (.cells [.str x] false 0 [])) := by kernel_rfl
theorem len_step (s : MS) (n v : List Nat) : (metaStep s n v).seen.length ≤ s.seen.length + 1 := by
  unfold metaStep
  split
  · omega
  · split
    · simp
    · split
      · cases charsetOf v with
        | none => simp
        | some c => simp only; split <;> simp
      · split <;> simp
/-- the memory of what was seen -/
def SeenH (σ τ : AHeap) (l : List (List Nat)) (q : Nat) : Prop :=
  WF τ ∧ σ.next ≤ τ.next ∧ (∀ b y, σ.m.get b = some y → τ.m.get b = some y) ∧ (l.length ≠ 0 → σ.next ≤ q ∧ τ.m.get q = some (.cells (l.map AV.str) false 0 []))
theorem seenH_push {σ τ : AHeap} {l : List (List Nat)} {q : Nat} (h : SeenH σ τ l q) (hW : WF σ) (x : ABlock) : SeenH σ (τ.push x) l q := by
  obtain ⟨h1, h2, h3, h4⟩ := h
  refine ⟨wf_push h1 x, by rw [next_push]; omega, keep_push hW h2 h3, fun e => ⟨(h4 e).1, ?_⟩⟩
  have := wf_lt h1 (h4 e).2
  rw [get_push, if_neg (by omega)]
  exact (h4 e).2
/-- one more name -/
theorem seen_app {σ τ : AHeap} {l : List (List Nat)} {q c : Nat} {n : List Nat} (h : SeenH σ τ l q) (hW : WF σ) (hc : τ.m.get c = some (.cells [.str n] false 0 [])) (hcn : σ.next ≤ c) (hcq : l.length ≠ 0 → c ≠ q) (hl : l.length ≤ 1000000) :
    ∃ q' H, aAppend Tryd.prog τ [49, 49] [slV q l.length 1, .slice c 0 1 1 true 1] = some (slV q' (l.length + 1) 1, H) ∧ SeenH σ H (l ++ [n]) q' ∧ (∀ b x, τ.m.get b = some x → (l.length ≠ 0 → b ≠ q) → H.m.get b = some x) := by
  obtain ⟨h1, h2, h3, h4⟩ := h
  obtain ⟨q', H, a1, a2, a3, a4, a5, a6⟩ := ap_one (P := Tryd.prog) (ex := true) (n := l.length) (ba := q) (xs := l.map AV.str) (ys := [.str n]) slTy49 h1 (by simp) (fun e => (h4 e).2) rfl rfl hc hl
  refine ⟨q', H, a1, ⟨a2, by omega, fun b y hb => a6 b y (h3 b y hb) fun e => ?_, fun _ => ⟨by omega, by rw [a5]; simp⟩⟩, a6⟩
  have := (h4 e).1
  have := wf_lt hW hb
  omega
theorem f34_tr (k : Nat) (d : List Nat) (hd : ∀ c ∈ d, c < 256) (hk : k ≤ d.length) (hl : d.length ≤ 1000000) {σ : AHeap} {m : Int} (hm : σ.m.get 0 = some (.cells [.int .i64 m] true 0 [])) :
    Tr Tryd.prog 34 [.str d, .int .i64 (k : Nat)] σ fun v σ' => v = metaAV (metaOf d k) ∧ σ' = σ := by
  refine Tr.wf fun hW => Tr.pure ?_
  refine sk_body (m := 86) Tryd.func34 rfl (by decide) rfl ?_
  have kH : bytesOf { data := #[104, 116, 116, 112, 45, 101, 113, 117, 105, 118] } = kEquiv := rfl
  have kT : bytesOf { data := #[99, 111, 110, 116, 101, 110, 116, 45, 116, 121, 112, 101] } = kType := rfl
  have kC : bytesOf { data := #[99, 111, 110, 116, 101, 110, 116] } = kCont := rfl
  have kW : bytesOf { data := #[99, 104, 97, 114, 115, 101, 116] } = W7 := rfl
  repeat (first
    | refine sk_seq ?_
    | refine sk_region ?_
    | refine sk_ops_nil ?_
    | refine sk_block ?_
    | refine sk_blk ?_
    | refine sk_skip ?_
    | refine sk_exit rfl ?_
    | ((first | (apply sk_r; rfl; rfl) | (apply sk_w; rfl; rfl) | (apply sk_i; rfl) | (apply sk_g; rfl; rfl)); (simp only [go_sem, Nat.reduceLT, Nat.reduceLeDiff, Nat.reduceEqDiff, Nat.reduceAdd, Nat.reduceSub, Nat.reduceMul, reduceIte, reduceCtorEq] <;> rfl); (first | refine sk_id ?_ | refine cs_t ?_ | refine cs_f ?_ | refine gs_t rfl ?_ | refine gs_f rfl ?_)))
  refine sk_cut (fun fr σ' => (∀ b y, σ.m.get b = some y → σ'.m.get b = some y) ∧ ∃ (s : MS) (e : Nat), metaGo d (d.length + 1) k ⟨[], [], false, false⟩ = (s, e) ∧ fget fr 1 = .int .i64 (e : Nat) ∧ fget fr 7 = .str s.name ∧ fget fr 8 = .bool s.pragma ∧ fget fr 9 = .bool s.wanted) ?_ ?_
  · refine sk_loop (fun m fr σ' => ∃ f a q, ∃ s : MS, m = f ∧ a ≤ d.length ∧ d.length - a < f ∧ metaGo d f a s = metaGo d (d.length + 1) k ⟨[], [], false, false⟩ ∧ Ok d.length s.name ∧ s.seen.length ≤ a ∧ SeenH σ σ' s.seen q ∧
        fget fr 0 = .str d ∧ fget fr 1 = .int .i64 (a : Nat) ∧ fget fr 6 = slV q s.seen.length 1 ∧ fget fr 7 = .str s.name ∧ fget fr 8 = .bool s.pragma ∧ fget fr 9 = .bool s.wanted) _
      ⟨d.length + 1, k, 0, ⟨[], [], false, false⟩, rfl, hk, by omega, rfl, ok_nil _, Nat.zero_le _, ⟨hW, Nat.le_refl _, fun _ _ h => h, fun e => absurd rfl e⟩, (by first | (simp only [go_sem, Nat.reduceLT, Nat.reduceLeDiff, Nat.reduceEqDiff, Nat.reduceAdd, Nat.reduceSub, Nat.reduceMul, reduceIte, reduceCtorEq] <;> rfl) | fail), (by first | (simp only [go_sem, Nat.reduceLT, Nat.reduceLeDiff, Nat.reduceEqDiff, Nat.reduceAdd, Nat.reduceSub, Nat.reduceMul, reduceIte, reduceCtorEq] <;> rfl) | fail), (by first | (simp only [go_sem, Nat.reduceLT, Nat.reduceLeDiff, Nat.reduceEqDiff, Nat.reduceAdd, Nat.reduceSub, Nat.reduceMul, reduceIte, reduceCtorEq] <;> rfl) | fail), (by first | (simp only [go_sem, Nat.reduceLT, Nat.reduceLeDiff, Nat.reduceEqDiff, Nat.reduceAdd, Nat.reduceSub, Nat.reduceMul, reduceIte, reduceCtorEq] <;> rfl) | fail), (by first | (simp only [go_sem, Nat.reduceLT, Nat.reduceLeDiff, Nat.reduceEqDiff, Nat.reduceAdd, Nat.reduceSub, Nat.reduceMul, reduceIte, reduceCtorEq] <;> rfl) | fail), (by first | (simp only [go_sem, Nat.reduceLT, Nat.reduceLeDiff, Nat.reduceEqDiff, Nat.reduceAdd, Nat.reduceSub, Nat.reduceMul, reduceIte, reduceCtorEq] <;> rfl) | fail)⟩ ?_
    rintro f fr τ ⟨_, a, q, s, rfl, ha, hf, hR, hs, hsl, hP, h0, h1, h6, h7, h8, h9⟩
    obtain ⟨f, rfl⟩ : ∃ g, f = g + 1 := ⟨f - 1, by omega⟩
    have hat := attr_all hd ha
    have hend := attr_end (d := d) (k := a) ha
    have s49 := fun σ => f49_tr a d hd ha hl σ
    rw [metaGo] at hR
    obtain ⟨⟨n, v, nx, ok⟩, hA⟩ : ∃ r, attrOf d a = r := ⟨_, rfl⟩
    rw [hA] at hat hend s49 hR
    simp only [attrAV] at hat hend s49 hR
    cases ok
    · rw [if_neg (by simp)] at hR
      repeat (first
        | refine sk_seq ?_
        | refine sk_region ?_
        | refine sk_ops_nil ?_
        | refine sk_block ?_
        | refine sk_blk ?_
        | refine sk_skip ?_
        | refine sk_exit rfl ?_
        | ((first | (apply sk_r; rfl; rfl) | (apply sk_w; rfl; rfl) | (apply sk_i; rfl) | (apply sk_g; rfl; rfl)); (simp only [go_sem, Nat.reduceLT, Nat.reduceLeDiff, Nat.reduceEqDiff, Nat.reduceAdd, Nat.reduceSub, Nat.reduceMul, reduceIte, reduceCtorEq, h0, h1, h6, h7, h8, h9] <;> rfl); (first | refine sk_id ?_ | refine cs_t ?_ | refine cs_f ?_ | refine gs_t rfl ?_ | refine gs_f rfl ?_))
        | ((first | (apply sk_c; rfl; rfl)); (simp only [go_sem, Nat.reduceLT, Nat.reduceLeDiff, Nat.reduceEqDiff, Nat.reduceAdd, Nat.reduceSub, Nat.reduceMul, reduceIte, reduceCtorEq, h0, h1, h6, h7, h8, h9] <;> rfl); (first
            | (refine (s49 _).mono ?_; rintro _ τ2 ⟨rfl, hτ2⟩; rw [hτ2])); refine sk_id ?_))
      exact sk_end ⟨keep_push hW hP.2.1 hP.2.2.1, s, nx, hR.symm, (by first | (simp only [go_sem, Nat.reduceLT, Nat.reduceLeDiff, Nat.reduceEqDiff, Nat.reduceAdd, Nat.reduceSub, Nat.reduceMul, reduceIte, reduceCtorEq] <;> rfl) | fail), (by first | (simp only [go_sem, Nat.reduceLT, Nat.reduceLeDiff, Nat.reduceEqDiff, Nat.reduceAdd, Nat.reduceSub, Nat.reduceMul, reduceIte, reduceCtorEq, h7] <;> rfl) | fail), (by first | (simp only [go_sem, Nat.reduceLT, Nat.reduceLeDiff, Nat.reduceEqDiff, Nat.reduceAdd, Nat.reduceSub, Nat.reduceMul, reduceIte, reduceCtorEq, h8] <;> rfl) | fail), (by first | (simp only [go_sem, Nat.reduceLT, Nat.reduceLeDiff, Nat.reduceEqDiff, Nat.reduceAdd, Nat.reduceSub, Nat.reduceMul, reduceIte, reduceCtorEq, h9] <;> rfl) | fail)⟩
    · rw [if_pos rfl] at hR
      obtain ⟨hnx, hnl⟩ := hend rfl
      repeat (first
        | refine sk_lenv (b := q) (m := s.seen.length) (z := 1) Tryd.underlying49 rfl (by first | (simp only [go_sem, Nat.reduceLT, Nat.reduceLeDiff, Nat.reduceEqDiff, Nat.reduceAdd, Nat.reduceSub, Nat.reduceMul, reduceIte, reduceCtorEq, h0, h1, h6, h7, h8, h9] <;> rfl) | fail) ?_
        | refine sk_seq ?_
        | refine sk_region ?_
        | refine sk_ops_nil ?_
        | refine sk_block ?_
        | refine sk_blk ?_
        | refine sk_skip ?_
        | refine sk_exit rfl ?_
        | ((first | (apply sk_r; rfl; rfl) | (apply sk_w; rfl; rfl) | (apply sk_i; rfl) | (apply sk_g; rfl; rfl)); (simp only [go_sem, Nat.reduceLT, Nat.reduceLeDiff, Nat.reduceEqDiff, Nat.reduceAdd, Nat.reduceSub, Nat.reduceMul, reduceIte, reduceCtorEq, h0, h1, h6, h7, h8, h9] <;> rfl); (first | refine sk_id ?_ | refine cs_t ?_ | refine cs_f ?_ | refine gs_t rfl ?_ | refine gs_f rfl ?_))
        | ((first | (apply sk_c; rfl; rfl)); (simp only [go_sem, Nat.reduceLT, Nat.reduceLeDiff, Nat.reduceEqDiff, Nat.reduceAdd, Nat.reduceSub, Nat.reduceMul, reduceIte, reduceCtorEq, h0, h1, h6, h7, h8, h9] <;> rfl); (first
            | (refine (s49 _).mono ?_; rintro _ τ2 ⟨rfl, hτ2⟩; rw [hτ2])); refine sk_id ?_))
      have gA := get_push_same τ (.cells [.str n, .str v] false 0 [])
      have hP1 := seenH_push hP hW (.cells [.str n, .str v] false 0 [])
      have hτn := hP.2.1
      have hqA : s.seen.length ≠ 0 → τ.next ≠ q := fun e => by have := wf_lt hP.1 (hP.2.2.2 e).2; omega
      refine sk_cut (fun fr σ' => σ' = τ.push (.cells [.str n, .str v] false 0 []) ∧ fget fr 0 = .str d ∧ fget fr 1 = .int .i64 (nx : Nat) ∧ fget fr 6 = slV q s.seen.length 1 ∧ fget fr 7 = .str s.name ∧ fget fr 8 = .bool s.pragma ∧ fget fr 9 = .bool s.wanted ∧ fget fr 10 = .ptr τ.next 0 ∧ fget fr 13 = .bool (decide (n ∈ s.seen))) ?_ ?_
      · refine sk_loop (fun m fr σ' => ∃ i, m = s.seen.length - i ∧ i ≤ s.seen.length ∧ σ' = τ.push (.cells [.str n, .str v] false 0 []) ∧ fget fr 0 = .str d ∧ fget fr 1 = .int .i64 (nx : Nat) ∧ fget fr 6 = slV q s.seen.length 1 ∧ fget fr 7 = .str s.name ∧ fget fr 8 = .bool s.pragma ∧ fget fr 9 = .bool s.wanted ∧ fget fr 10 = .ptr τ.next 0 ∧ fget fr 13 = .bool (decide (n ∈ s.seen.take i)) ∧
            fget fr 28 = slV q s.seen.length 1 ∧ fget fr 29 = .int .i64 (s.seen.length : Nat) ∧ fget fr 30 = .int .i64 (i : Nat)) _
          ⟨0, rfl, Nat.zero_le _, rfl, (by first | (simp only [go_sem, Nat.reduceLT, Nat.reduceLeDiff, Nat.reduceEqDiff, Nat.reduceAdd, Nat.reduceSub, Nat.reduceMul, reduceIte, reduceCtorEq, h0] <;> rfl) | fail), (by first | (simp only [go_sem, Nat.reduceLT, Nat.reduceLeDiff, Nat.reduceEqDiff, Nat.reduceAdd, Nat.reduceSub, Nat.reduceMul, reduceIte, reduceCtorEq] <;> rfl) | fail), (by first | (simp only [go_sem, Nat.reduceLT, Nat.reduceLeDiff, Nat.reduceEqDiff, Nat.reduceAdd, Nat.reduceSub, Nat.reduceMul, reduceIte, reduceCtorEq, h6] <;> rfl) | fail), (by first | (simp only [go_sem, Nat.reduceLT, Nat.reduceLeDiff, Nat.reduceEqDiff, Nat.reduceAdd, Nat.reduceSub, Nat.reduceMul, reduceIte, reduceCtorEq, h7] <;> rfl) | fail), (by first | (simp only [go_sem, Nat.reduceLT, Nat.reduceLeDiff, Nat.reduceEqDiff, Nat.reduceAdd, Nat.reduceSub, Nat.reduceMul, reduceIte, reduceCtorEq, h8] <;> rfl) | fail), (by first | (simp only [go_sem, Nat.reduceLT, Nat.reduceLeDiff, Nat.reduceEqDiff, Nat.reduceAdd, Nat.reduceSub, Nat.reduceMul, reduceIte, reduceCtorEq, h9] <;> rfl) | fail), (by first | (simp only [go_sem, Nat.reduceLT, Nat.reduceLeDiff, Nat.reduceEqDiff, Nat.reduceAdd, Nat.reduceSub, Nat.reduceMul, reduceIte, reduceCtorEq] <;> rfl) | fail), (by first | (simp only [go_sem, Nat.reduceLT, Nat.reduceLeDiff, Nat.reduceEqDiff, Nat.reduceAdd, Nat.reduceSub, Nat.reduceMul, reduceIte, reduceCtorEq] <;> rfl) | fail), (by first | (simp only [go_sem, Nat.reduceLT, Nat.reduceLeDiff, Nat.reduceEqDiff, Nat.reduceAdd, Nat.reduceSub, Nat.reduceMul, reduceIte, reduceCtorEq, h6] <;> rfl) | fail), (by first | (simp only [go_sem, Nat.reduceLT, Nat.reduceLeDiff, Nat.reduceEqDiff, Nat.reduceAdd, Nat.reduceSub, Nat.reduceMul, reduceIte, reduceCtorEq] <;> rfl) | fail), (by first | (simp only [go_sem, Nat.reduceLT, Nat.reduceLeDiff, Nat.reduceEqDiff, Nat.reduceAdd, Nat.reduceSub, Nat.reduceMul, reduceIte, reduceCtorEq] <;> rfl) | fail)⟩ ?_
        clear h0 h1 h6 h7 h8 h9
        rintro _ fr σ1 ⟨i, rfl, hi, hσ1, h0, h1, h6, h7, h8, h9, h10, h13, h28, h29, h30⟩
        rw [hσ1]
        by_cases hil : i < s.seen.length
        · obtain ⟨x, hx⟩ : ∃ x, s.seen[i]? = some x := ⟨_, List.getElem?_eq_getElem hil⟩
          have e1 : decide ((i : Int) < (s.seen.length : Int)) = true := decide_eq_true (by omega)
          have e2 : (0 : Int) ≤ (i : Int) := by omega
          have e3 : (i : Int) < (s.seen.length : Int) := by omega
          have e4 : IntKind.wrap .i64 ((i : Int) + 1) = ((i + 1 : Nat) : Int) := wrap_i64 (by omega) (by omega)
          have e5 := strs_get' hx
          have gq := (hP1.2.2.2 (by omega)).2
          rw [slV_pos (by omega)] at h28
          have htk : decide (n ∈ s.seen.take (i + 1)) = (decide (n ∈ s.seen.take i) || beqL x n) := by
            rw [List.take_succ, hx, beqL_eq, Bool.eq_iff_iff]
            simp only [List.mem_append, Option.toList_some, List.mem_singleton, decide_eq_true_eq, Bool.or_eq_true]
            constructor
            · rintro (h | h)
              · exact .inl h
              · exact .inr h.symm
            · rintro (h | h)
              · exact .inl h
              · exact .inr h.symm
          cases hb : decide (n ∈ s.seen.take i)
          · rw [hb] at h13 htk
            repeat (first
              | refine sk_seq ?_
              | refine sk_region ?_
              | refine sk_ops_nil ?_
              | refine sk_block ?_
              | refine sk_blk ?_
              | refine sk_skip ?_
              | refine sk_exit rfl ?_
              | ((first | (apply sk_r; rfl; rfl) | (apply sk_w; rfl; rfl) | (apply sk_i; rfl) | (apply sk_g; rfl; rfl)); (simp only [go_sem, Nat.reduceLT, Nat.reduceLeDiff, Nat.reduceEqDiff, Nat.reduceAdd, Nat.reduceSub, Nat.reduceMul, reduceIte, reduceCtorEq, h10, h13, h28, h29, h30, e1, e2, e3, e4, e5, gA, gq, and_self] <;> rfl); (first | refine sk_id ?_ | refine cs_t ?_ | refine cs_f ?_ | refine gs_t rfl ?_ | refine gs_f rfl ?_)))
            exact sk_stop ⟨s.seen.length - (i + 1), by omega, i + 1, rfl, by omega, rfl, (by first | (simp only [go_sem, Nat.reduceLT, Nat.reduceLeDiff, Nat.reduceEqDiff, Nat.reduceAdd, Nat.reduceSub, Nat.reduceMul, reduceIte, reduceCtorEq, h0] <;> rfl) | fail), (by first | (simp only [go_sem, Nat.reduceLT, Nat.reduceLeDiff, Nat.reduceEqDiff, Nat.reduceAdd, Nat.reduceSub, Nat.reduceMul, reduceIte, reduceCtorEq, h1] <;> rfl) | fail), (by first | (simp only [go_sem, Nat.reduceLT, Nat.reduceLeDiff, Nat.reduceEqDiff, Nat.reduceAdd, Nat.reduceSub, Nat.reduceMul, reduceIte, reduceCtorEq, h6] <;> rfl) | fail), (by first | (simp only [go_sem, Nat.reduceLT, Nat.reduceLeDiff, Nat.reduceEqDiff, Nat.reduceAdd, Nat.reduceSub, Nat.reduceMul, reduceIte, reduceCtorEq, h7] <;> rfl) | fail), (by first | (simp only [go_sem, Nat.reduceLT, Nat.reduceLeDiff, Nat.reduceEqDiff, Nat.reduceAdd, Nat.reduceSub, Nat.reduceMul, reduceIte, reduceCtorEq, h8] <;> rfl) | fail), (by first | (simp only [go_sem, Nat.reduceLT, Nat.reduceLeDiff, Nat.reduceEqDiff, Nat.reduceAdd, Nat.reduceSub, Nat.reduceMul, reduceIte, reduceCtorEq, h9] <;> rfl) | fail), (by first | (simp only [go_sem, Nat.reduceLT, Nat.reduceLeDiff, Nat.reduceEqDiff, Nat.reduceAdd, Nat.reduceSub, Nat.reduceMul, reduceIte, reduceCtorEq, h10] <;> rfl) | fail), by rw [htk]; exact (by first | (simp only [go_sem, Nat.reduceLT, Nat.reduceLeDiff, Nat.reduceEqDiff, Nat.reduceAdd, Nat.reduceSub, Nat.reduceMul, reduceIte, reduceCtorEq] <;> rfl) | fail), by rw [slV_pos (by omega)]; exact (by first | (simp only [go_sem, Nat.reduceLT, Nat.reduceLeDiff, Nat.reduceEqDiff, Nat.reduceAdd, Nat.reduceSub, Nat.reduceMul, reduceIte, reduceCtorEq, h28] <;> rfl) | fail), (by first | (simp only [go_sem, Nat.reduceLT, Nat.reduceLeDiff, Nat.reduceEqDiff, Nat.reduceAdd, Nat.reduceSub, Nat.reduceMul, reduceIte, reduceCtorEq, h29] <;> rfl) | fail), (by first | (simp only [go_sem, Nat.reduceLT, Nat.reduceLeDiff, Nat.reduceEqDiff, Nat.reduceAdd, Nat.reduceSub, Nat.reduceMul, reduceIte, reduceCtorEq] <;> rfl) | fail)⟩
          · rw [hb] at h13 htk
            repeat (first
              | refine sk_seq ?_
              | refine sk_region ?_
              | refine sk_ops_nil ?_
              | refine sk_block ?_
              | refine sk_blk ?_
              | refine sk_skip ?_
              | refine sk_exit rfl ?_
              | ((first | (apply sk_r; rfl; rfl) | (apply sk_w; rfl; rfl) | (apply sk_i; rfl) | (apply sk_g; rfl; rfl)); (simp only [go_sem, Nat.reduceLT, Nat.reduceLeDiff, Nat.reduceEqDiff, Nat.reduceAdd, Nat.reduceSub, Nat.reduceMul, reduceIte, reduceCtorEq, h10, h13, h28, h29, h30, e1, e2, e3, e4, e5, gA, gq, and_self] <;> rfl); (first | refine sk_id ?_ | refine cs_t ?_ | refine cs_f ?_ | refine gs_t rfl ?_ | refine gs_f rfl ?_)))
            exact sk_stop ⟨s.seen.length - (i + 1), by omega, i + 1, rfl, by omega, rfl, (by first | (simp only [go_sem, Nat.reduceLT, Nat.reduceLeDiff, Nat.reduceEqDiff, Nat.reduceAdd, Nat.reduceSub, Nat.reduceMul, reduceIte, reduceCtorEq, h0] <;> rfl) | fail), (by first | (simp only [go_sem, Nat.reduceLT, Nat.reduceLeDiff, Nat.reduceEqDiff, Nat.reduceAdd, Nat.reduceSub, Nat.reduceMul, reduceIte, reduceCtorEq, h1] <;> rfl) | fail), (by first | (simp only [go_sem, Nat.reduceLT, Nat.reduceLeDiff, Nat.reduceEqDiff, Nat.reduceAdd, Nat.reduceSub, Nat.reduceMul, reduceIte, reduceCtorEq, h6] <;> rfl) | fail), (by first | (simp only [go_sem, Nat.reduceLT, Nat.reduceLeDiff, Nat.reduceEqDiff, Nat.reduceAdd, Nat.reduceSub, Nat.reduceMul, reduceIte, reduceCtorEq, h7] <;> rfl) | fail), (by first | (simp only [go_sem, Nat.reduceLT, Nat.reduceLeDiff, Nat.reduceEqDiff, Nat.reduceAdd, Nat.reduceSub, Nat.reduceMul, reduceIte, reduceCtorEq, h8] <;> rfl) | fail), (by first | (simp only [go_sem, Nat.reduceLT, Nat.reduceLeDiff, Nat.reduceEqDiff, Nat.reduceAdd, Nat.reduceSub, Nat.reduceMul, reduceIte, reduceCtorEq, h9] <;> rfl) | fail), (by first | (simp only [go_sem, Nat.reduceLT, Nat.reduceLeDiff, Nat.reduceEqDiff, Nat.reduceAdd, Nat.reduceSub, Nat.reduceMul, reduceIte, reduceCtorEq, h10] <;> rfl) | fail), by rw [htk]; exact (by first | (simp only [go_sem, Nat.reduceLT, Nat.reduceLeDiff, Nat.reduceEqDiff, Nat.reduceAdd, Nat.reduceSub, Nat.reduceMul, reduceIte, reduceCtorEq] <;> rfl) | fail), by rw [slV_pos (by omega)]; exact (by first | (simp only [go_sem, Nat.reduceLT, Nat.reduceLeDiff, Nat.reduceEqDiff, Nat.reduceAdd, Nat.reduceSub, Nat.reduceMul, reduceIte, reduceCtorEq, h28] <;> rfl) | fail), (by first | (simp only [go_sem, Nat.reduceLT, Nat.reduceLeDiff, Nat.reduceEqDiff, Nat.reduceAdd, Nat.reduceSub, Nat.reduceMul, reduceIte, reduceCtorEq, h29] <;> rfl) | fail), (by first | (simp only [go_sem, Nat.reduceLT, Nat.reduceLeDiff, Nat.reduceEqDiff, Nat.reduceAdd, Nat.reduceSub, Nat.reduceMul, reduceIte, reduceCtorEq] <;> rfl) | fail)⟩
        · have e1 : decide ((i : Int) < (s.seen.length : Int)) = false := decide_eq_false (by omega)
          rw [List.take_of_length_le (by omega)] at h13
          repeat (first
            | refine sk_seq ?_
            | refine sk_region ?_
            | refine sk_ops_nil ?_
            | refine sk_block ?_
            | refine sk_blk ?_
            | refine sk_skip ?_
            | refine sk_exit rfl ?_
            | ((first | (apply sk_r; rfl; rfl) | (apply sk_w; rfl; rfl) | (apply sk_i; rfl) | (apply sk_g; rfl; rfl)); (simp only [go_sem, Nat.reduceLT, Nat.reduceLeDiff, Nat.reduceEqDiff, Nat.reduceAdd, Nat.reduceSub, Nat.reduceMul, reduceIte, reduceCtorEq, h29, h30, e1] <;> rfl); (first | refine sk_id ?_ | refine cs_t ?_ | refine cs_f ?_ | refine gs_t rfl ?_ | refine gs_f rfl ?_)))
          exact sk_end ⟨rfl, (by first | (simp only [go_sem, Nat.reduceLT, Nat.reduceLeDiff, Nat.reduceEqDiff, Nat.reduceAdd, Nat.reduceSub, Nat.reduceMul, reduceIte, reduceCtorEq, h0] <;> rfl) | fail), (by first | (simp only [go_sem, Nat.reduceLT, Nat.reduceLeDiff, Nat.reduceEqDiff, Nat.reduceAdd, Nat.reduceSub, Nat.reduceMul, reduceIte, reduceCtorEq, h1] <;> rfl) | fail), (by first | (simp only [go_sem, Nat.reduceLT, Nat.reduceLeDiff, Nat.reduceEqDiff, Nat.reduceAdd, Nat.reduceSub, Nat.reduceMul, reduceIte, reduceCtorEq, h6] <;> rfl) | fail), (by first | (simp only [go_sem, Nat.reduceLT, Nat.reduceLeDiff, Nat.reduceEqDiff, Nat.reduceAdd, Nat.reduceSub, Nat.reduceMul, reduceIte, reduceCtorEq, h7] <;> rfl) | fail), (by first | (simp only [go_sem, Nat.reduceLT, Nat.reduceLeDiff, Nat.reduceEqDiff, Nat.reduceAdd, Nat.reduceSub, Nat.reduceMul, reduceIte, reduceCtorEq, h8] <;> rfl) | fail), (by first | (simp only [go_sem, Nat.reduceLT, Nat.reduceLeDiff, Nat.reduceEqDiff, Nat.reduceAdd, Nat.reduceSub, Nat.reduceMul, reduceIte, reduceCtorEq, h9] <;> rfl) | fail), (by first | (simp only [go_sem, Nat.reduceLT, Nat.reduceLeDiff, Nat.reduceEqDiff, Nat.reduceAdd, Nat.reduceSub, Nat.reduceMul, reduceIte, reduceCtorEq, h10] <;> rfl) | fail), (by first | (simp only [go_sem, Nat.reduceLT, Nat.reduceLeDiff, Nat.reduceEqDiff, Nat.reduceAdd, Nat.reduceSub, Nat.reduceMul, reduceIte, reduceCtorEq, h13] <;> rfl) | fail)⟩
      clear h0 h1 h6 h7 h8 h9
      rintro fr σ1 ⟨hσ1, h0, h1, h6, h7, h8, h9, h10, h13⟩
      rw [hσ1]
      by_cases hmem : n ∈ s.seen
      · rw [decide_eq_true hmem] at h13
        repeat (first
          | refine sk_seq ?_
          | refine sk_region ?_
          | refine sk_ops_nil ?_
          | refine sk_block ?_
          | refine sk_blk ?_
          | refine sk_skip ?_
          | refine sk_exit rfl ?_
          | ((first | (apply sk_r; rfl; rfl) | (apply sk_w; rfl; rfl) | (apply sk_i; rfl) | (apply sk_g; rfl; rfl)); (simp only [go_sem, Nat.reduceLT, Nat.reduceLeDiff, Nat.reduceEqDiff, Nat.reduceAdd, Nat.reduceSub, Nat.reduceMul, reduceIte, reduceCtorEq, h13] <;> rfl); (first | refine sk_id ?_ | refine cs_t ?_ | refine cs_f ?_ | refine gs_t rfl ?_ | refine gs_f rfl ?_)))
        have hst : metaStep s n v = s := by unfold metaStep; rw [if_pos hmem]
        rw [hst] at hR
        exact sk_stop ⟨f, by omega, f, nx, q, s, rfl, hnl, by omega, hR, hs, by omega, hP1, (by first | (simp only [go_sem, Nat.reduceLT, Nat.reduceLeDiff, Nat.reduceEqDiff, Nat.reduceAdd, Nat.reduceSub, Nat.reduceMul, reduceIte, reduceCtorEq, h0] <;> rfl) | fail), (by first | (simp only [go_sem, Nat.reduceLT, Nat.reduceLeDiff, Nat.reduceEqDiff, Nat.reduceAdd, Nat.reduceSub, Nat.reduceMul, reduceIte, reduceCtorEq, h1] <;> rfl) | fail), (by first | (simp only [go_sem, Nat.reduceLT, Nat.reduceLeDiff, Nat.reduceEqDiff, Nat.reduceAdd, Nat.reduceSub, Nat.reduceMul, reduceIte, reduceCtorEq, h6] <;> rfl) | fail), (by first | (simp only [go_sem, Nat.reduceLT, Nat.reduceLeDiff, Nat.reduceEqDiff, Nat.reduceAdd, Nat.reduceSub, Nat.reduceMul, reduceIte, reduceCtorEq, h7] <;> rfl) | fail), (by first | (simp only [go_sem, Nat.reduceLT, Nat.reduceLeDiff, Nat.reduceEqDiff, Nat.reduceAdd, Nat.reduceSub, Nat.reduceMul, reduceIte, reduceCtorEq, h8] <;> rfl) | fail), (by first | (simp only [go_sem, Nat.reduceLT, Nat.reduceLeDiff, Nat.reduceEqDiff, Nat.reduceAdd, Nat.reduceSub, Nat.reduceMul, reduceIte, reduceCtorEq, h9] <;> rfl) | fail)⟩
      · rw [decide_eq_false hmem] at h13
        have hP2 := seenH_push hP1 hW (.cells [.str n] false 0 [])
        obtain ⟨q', H, a1, hP3, a6⟩ := seen_app (c := (τ.push (.cells [.str n, .str v] false 0 [])).next) (n := n) hP2 hW (get_push_same _ _) (by rw [next_push]; omega) (fun e => by have := wf_lt hP.1 (hP.2.2.2 e).2; rw [next_push]; omega) (by omega)
        have gA2 : ∀ X, ((τ.push (.cells [.str n, .str v] false 0 [])).push X).m.get τ.next = some (.cells [.str n, .str v] false 0 []) := fun X => by rw [get_push, if_neg (by rw [next_push]; omega)]; exact gA
        have gH := a6 _ _ (gA2 _) hqA
        have hm3 := hP3.2.2.1 _ _ hm
        have hlen : (s.seen ++ [n]).length = s.seen.length + 1 := by simp
        rw [← hlen] at a1
        simp only [next_push] at a1
        have hsl2 : (s.seen ++ [n]).length ≤ nx := by omega
        have hc1 := hat.2.1
        have hst0 := ok_step (n := n) hs hc1
        have hnv : ∀ x y : List Nat, x ≠ y → beqL x y = false := fun x y h => by rw [beqL_eq]; exact decide_eq_false h
        have hnt : ∀ x y : List Nat, x = y → beqL x y = true := fun x y h => by rw [beqL_eq]; exact decide_eq_true h
        by_cases c1 : n = kEquiv
        · have hst : metaStep s n v = ⟨s.seen ++ [n], s.name, decide (v = kType), s.wanted⟩ := by unfold metaStep; rw [if_neg hmem, if_pos c1]
          have f1 := hnt _ _ c1
          have f2 : beqL v kType = decide (v = kType) := beqL_eq _ _
          rw [hst] at hR hst0
          repeat (first
            | refine sk_seq ?_
            | refine sk_region ?_
            | refine sk_ops_nil ?_
            | refine sk_block ?_
            | refine sk_blk ?_
            | refine sk_skip ?_
            | refine sk_exit rfl ?_
            | ((first | (apply sk_r; rfl; rfl) | (apply sk_w; rfl; rfl) | (apply sk_i; rfl) | (apply sk_g; rfl; rfl)); (simp only [go_sem, Nat.reduceLT, Nat.reduceLeDiff, Nat.reduceEqDiff, Nat.reduceAdd, Nat.reduceSub, Nat.reduceMul, reduceIte, reduceCtorEq, h0, h1, h6, h7, h8, h9, h10, h13, gA, gA2, gH, a1, kH, kT, kC, kW, f1, f2] <;> rfl); (first | refine sk_id ?_ | refine cs_t ?_ | refine cs_f ?_ | refine gs_t rfl ?_ | refine gs_f rfl ?_)))
          exact sk_stop ⟨f, by omega, f, nx, q', _, rfl, hnl, by omega, hR, hst0, hsl2, hP3, (by first | (simp only [go_sem, Nat.reduceLT, Nat.reduceLeDiff, Nat.reduceEqDiff, Nat.reduceAdd, Nat.reduceSub, Nat.reduceMul, reduceIte, reduceCtorEq, h0] <;> rfl) | fail), (by first | (simp only [go_sem, Nat.reduceLT, Nat.reduceLeDiff, Nat.reduceEqDiff, Nat.reduceAdd, Nat.reduceSub, Nat.reduceMul, reduceIte, reduceCtorEq, h1] <;> rfl) | fail), (by first | (simp only [go_sem, Nat.reduceLT, Nat.reduceLeDiff, Nat.reduceEqDiff, Nat.reduceAdd, Nat.reduceSub, Nat.reduceMul, reduceIte, reduceCtorEq] <;> rfl) | fail), (by first | (simp only [go_sem, Nat.reduceLT, Nat.reduceLeDiff, Nat.reduceEqDiff, Nat.reduceAdd, Nat.reduceSub, Nat.reduceMul, reduceIte, reduceCtorEq, h7] <;> rfl) | fail), (by first | (simp only [go_sem, Nat.reduceLT, Nat.reduceLeDiff, Nat.reduceEqDiff, Nat.reduceAdd, Nat.reduceSub, Nat.reduceMul, reduceIte, reduceCtorEq] <;> rfl) | fail), (by first | (simp only [go_sem, Nat.reduceLT, Nat.reduceLeDiff, Nat.reduceEqDiff, Nat.reduceAdd, Nat.reduceSub, Nat.reduceMul, reduceIte, reduceCtorEq, h9] <;> rfl) | fail)⟩
        · have f1 := hnv _ _ c1
          by_cases c2 : n = kCont
          · have f2 := hnt _ _ c2
            have s50 := f50_tr v hc1.1 (Nat.le_trans hc1.2 hl) hm3
            cases hcs : charsetOf v with
            | none =>
              have hst : metaStep s n v = ⟨s.seen ++ [n], s.name, s.pragma, s.wanted⟩ := by unfold metaStep; rw [if_neg hmem, if_neg c1, if_pos c2, hcs]
              rw [hst] at hR hst0
              rw [hcs] at s50
              simp only [nameAV] at s50
              repeat (first
                | refine sk_seq ?_
                | refine sk_region ?_
                | refine sk_ops_nil ?_
                | refine sk_block ?_
                | refine sk_blk ?_
                | refine sk_skip ?_
                | refine sk_exit rfl ?_
                | ((first | (apply sk_r; rfl; rfl) | (apply sk_w; rfl; rfl) | (apply sk_i; rfl) | (apply sk_g; rfl; rfl)); (simp only [go_sem, Nat.reduceLT, Nat.reduceLeDiff, Nat.reduceEqDiff, Nat.reduceAdd, Nat.reduceSub, Nat.reduceMul, reduceIte, reduceCtorEq, h0, h1, h6, h7, h8, h9, h10, h13, gA, gA2, gH, a1, kH, kT, kC, kW, f1, f2] <;> rfl); (first | refine sk_id ?_ | refine cs_t ?_ | refine cs_f ?_ | refine gs_t rfl ?_ | refine gs_f rfl ?_))
                | ((first | (apply sk_c; rfl; rfl)); (simp only [go_sem, Nat.reduceLT, Nat.reduceLeDiff, Nat.reduceEqDiff, Nat.reduceAdd, Nat.reduceSub, Nat.reduceMul, reduceIte, reduceCtorEq, h0, h1, h6, h7, h8, h9, h10, h13, gA, gA2, gH, a1, kH, kT, kC, kW, f1, f2] <;> rfl); (first
                    | (refine s50.mono ?_; rintro _ τ2 ⟨rfl, hτ2⟩; rw [hτ2])); refine sk_id ?_))
              exact sk_stop ⟨f, by omega, f, nx, q', _, rfl, hnl, by omega, hR, hst0, hsl2, hP3, (by first | (simp only [go_sem, Nat.reduceLT, Nat.reduceLeDiff, Nat.reduceEqDiff, Nat.reduceAdd, Nat.reduceSub, Nat.reduceMul, reduceIte, reduceCtorEq, h0] <;> rfl) | fail), (by first | (simp only [go_sem, Nat.reduceLT, Nat.reduceLeDiff, Nat.reduceEqDiff, Nat.reduceAdd, Nat.reduceSub, Nat.reduceMul, reduceIte, reduceCtorEq, h1] <;> rfl) | fail), (by first | (simp only [go_sem, Nat.reduceLT, Nat.reduceLeDiff, Nat.reduceEqDiff, Nat.reduceAdd, Nat.reduceSub, Nat.reduceMul, reduceIte, reduceCtorEq] <;> rfl) | fail), (by first | (simp only [go_sem, Nat.reduceLT, Nat.reduceLeDiff, Nat.reduceEqDiff, Nat.reduceAdd, Nat.reduceSub, Nat.reduceMul, reduceIte, reduceCtorEq, h7] <;> rfl) | fail), (by first | (simp only [go_sem, Nat.reduceLT, Nat.reduceLeDiff, Nat.reduceEqDiff, Nat.reduceAdd, Nat.reduceSub, Nat.reduceMul, reduceIte, reduceCtorEq, h8] <;> rfl) | fail), (by first | (simp only [go_sem, Nat.reduceLT, Nat.reduceLeDiff, Nat.reduceEqDiff, Nat.reduceAdd, Nat.reduceSub, Nat.reduceMul, reduceIte, reduceCtorEq, h9] <;> rfl) | fail)⟩
            | some c =>
              rw [hcs] at s50
              simp only [nameAV] at s50
              by_cases hnm : s.name = []
              · have hst : metaStep s n v = ⟨s.seen ++ [n], c, s.pragma, true⟩ := by unfold metaStep; rw [if_neg hmem, if_neg c1, if_pos c2, hcs]; simp only; rw [if_pos hnm]
                rw [hst] at hR hst0
                have f3 := hnt _ _ hnm
                repeat (first
                  | refine sk_seq ?_
                  | refine sk_region ?_
                  | refine sk_ops_nil ?_
                  | refine sk_block ?_
                  | refine sk_blk ?_
                  | refine sk_skip ?_
                  | refine sk_exit rfl ?_
                  | ((first | (apply sk_r; rfl; rfl) | (apply sk_w; rfl; rfl) | (apply sk_i; rfl) | (apply sk_g; rfl; rfl)); (simp only [go_sem, Nat.reduceLT, Nat.reduceLeDiff, Nat.reduceEqDiff, Nat.reduceAdd, Nat.reduceSub, Nat.reduceMul, reduceIte, reduceCtorEq, h0, h1, h6, h7, h8, h9, h10, h13, gA, gA2, gH, a1, kH, kT, kC, kW, f1, f2, f3, bytes_nil] <;> rfl); (first | refine sk_id ?_ | refine cs_t ?_ | refine cs_f ?_ | refine gs_t rfl ?_ | refine gs_f rfl ?_))
                  | ((first | (apply sk_c; rfl; rfl)); (simp only [go_sem, Nat.reduceLT, Nat.reduceLeDiff, Nat.reduceEqDiff, Nat.reduceAdd, Nat.reduceSub, Nat.reduceMul, reduceIte, reduceCtorEq, h0, h1, h6, h7, h8, h9, h10, h13, gA, gA2, gH, a1, kH, kT, kC, kW, f1, f2, f3, bytes_nil] <;> rfl); (first
                      | (refine s50.mono ?_; rintro _ τ2 ⟨rfl, hτ2⟩; rw [hτ2])); refine sk_id ?_))
                exact sk_stop ⟨f, by omega, f, nx, q', _, rfl, hnl, by omega, hR, hst0, hsl2, hP3, (by first | (simp only [go_sem, Nat.reduceLT, Nat.reduceLeDiff, Nat.reduceEqDiff, Nat.reduceAdd, Nat.reduceSub, Nat.reduceMul, reduceIte, reduceCtorEq, h0] <;> rfl) | fail), (by first | (simp only [go_sem, Nat.reduceLT, Nat.reduceLeDiff, Nat.reduceEqDiff, Nat.reduceAdd, Nat.reduceSub, Nat.reduceMul, reduceIte, reduceCtorEq, h1] <;> rfl) | fail), (by first | (simp only [go_sem, Nat.reduceLT, Nat.reduceLeDiff, Nat.reduceEqDiff, Nat.reduceAdd, Nat.reduceSub, Nat.reduceMul, reduceIte, reduceCtorEq] <;> rfl) | fail), (by first | (simp only [go_sem, Nat.reduceLT, Nat.reduceLeDiff, Nat.reduceEqDiff, Nat.reduceAdd, Nat.reduceSub, Nat.reduceMul, reduceIte, reduceCtorEq] <;> rfl) | fail), (by first | (simp only [go_sem, Nat.reduceLT, Nat.reduceLeDiff, Nat.reduceEqDiff, Nat.reduceAdd, Nat.reduceSub, Nat.reduceMul, reduceIte, reduceCtorEq, h8] <;> rfl) | fail), (by first | (simp only [go_sem, Nat.reduceLT, Nat.reduceLeDiff, Nat.reduceEqDiff, Nat.reduceAdd, Nat.reduceSub, Nat.reduceMul, reduceIte, reduceCtorEq] <;> rfl) | fail)⟩
              · have hst : metaStep s n v = ⟨s.seen ++ [n], s.name, s.pragma, s.wanted⟩ := by unfold metaStep; rw [if_neg hmem, if_neg c1, if_pos c2, hcs]; simp only; rw [if_neg hnm]
                rw [hst] at hR hst0
                have f3 := hnv _ _ hnm
                repeat (first
                  | refine sk_seq ?_
                  | refine sk_region ?_
                  | refine sk_ops_nil ?_
                  | refine sk_block ?_
                  | refine sk_blk ?_
                  | refine sk_skip ?_
                  | refine sk_exit rfl ?_
                  | ((first | (apply sk_r; rfl; rfl) | (apply sk_w; rfl; rfl) | (apply sk_i; rfl) | (apply sk_g; rfl; rfl)); (simp only [go_sem, Nat.reduceLT, Nat.reduceLeDiff, Nat.reduceEqDiff, Nat.reduceAdd, Nat.reduceSub, Nat.reduceMul, reduceIte, reduceCtorEq, h0, h1, h6, h7, h8, h9, h10, h13, gA, gA2, gH, a1, kH, kT, kC, kW, f1, f2, f3, bytes_nil] <;> rfl); (first | refine sk_id ?_ | refine cs_t ?_ | refine cs_f ?_ | refine gs_t rfl ?_ | refine gs_f rfl ?_))
                  | ((first | (apply sk_c; rfl; rfl)); (simp only [go_sem, Nat.reduceLT, Nat.reduceLeDiff, Nat.reduceEqDiff, Nat.reduceAdd, Nat.reduceSub, Nat.reduceMul, reduceIte, reduceCtorEq, h0, h1, h6, h7, h8, h9, h10, h13, gA, gA2, gH, a1, kH, kT, kC, kW, f1, f2, f3, bytes_nil] <;> rfl); (first
                      | (refine s50.mono ?_; rintro _ τ2 ⟨rfl, hτ2⟩; rw [hτ2])); refine sk_id ?_))
                exact sk_stop ⟨f, by omega, f, nx, q', _, rfl, hnl, by omega, hR, hst0, hsl2, hP3, (by first | (simp only [go_sem, Nat.reduceLT, Nat.reduceLeDiff, Nat.reduceEqDiff, Nat.reduceAdd, Nat.reduceSub, Nat.reduceMul, reduceIte, reduceCtorEq, h0] <;> rfl) | fail), (by first | (simp only [go_sem, Nat.reduceLT, Nat.reduceLeDiff, Nat.reduceEqDiff, Nat.reduceAdd, Nat.reduceSub, Nat.reduceMul, reduceIte, reduceCtorEq, h1] <;> rfl) | fail), (by first | (simp only [go_sem, Nat.reduceLT, Nat.reduceLeDiff, Nat.reduceEqDiff, Nat.reduceAdd, Nat.reduceSub, Nat.reduceMul, reduceIte, reduceCtorEq] <;> rfl) | fail), (by first | (simp only [go_sem, Nat.reduceLT, Nat.reduceLeDiff, Nat.reduceEqDiff, Nat.reduceAdd, Nat.reduceSub, Nat.reduceMul, reduceIte, reduceCtorEq, h7] <;> rfl) | fail), (by first | (simp only [go_sem, Nat.reduceLT, Nat.reduceLeDiff, Nat.reduceEqDiff, Nat.reduceAdd, Nat.reduceSub, Nat.reduceMul, reduceIte, reduceCtorEq, h8] <;> rfl) | fail), (by first | (simp only [go_sem, Nat.reduceLT, Nat.reduceLeDiff, Nat.reduceEqDiff, Nat.reduceAdd, Nat.reduceSub, Nat.reduceMul, reduceIte, reduceCtorEq, h9] <;> rfl) | fail)⟩
          · have f2 := hnv _ _ c2
            by_cases c3 : n = W7
            · have hst : metaStep s n v = ⟨s.seen ++ [n], v, s.pragma, false⟩ := by unfold metaStep; rw [if_neg hmem, if_neg c1, if_neg c2, if_pos c3]
              rw [hst] at hR hst0
              have f3 := hnt _ _ c3
              repeat (first
                | refine sk_seq ?_
                | refine sk_region ?_
                | refine sk_ops_nil ?_
                | refine sk_block ?_
                | refine sk_blk ?_
                | refine sk_skip ?_
                | refine sk_exit rfl ?_
                | ((first | (apply sk_r; rfl; rfl) | (apply sk_w; rfl; rfl) | (apply sk_i; rfl) | (apply sk_g; rfl; rfl)); (simp only [go_sem, Nat.reduceLT, Nat.reduceLeDiff, Nat.reduceEqDiff, Nat.reduceAdd, Nat.reduceSub, Nat.reduceMul, reduceIte, reduceCtorEq, h0, h1, h6, h7, h8, h9, h10, h13, gA, gA2, gH, a1, kH, kT, kC, kW, f1, f2, f3] <;> rfl); (first | refine sk_id ?_ | refine cs_t ?_ | refine cs_f ?_ | refine gs_t rfl ?_ | refine gs_f rfl ?_)))
              exact sk_stop ⟨f, by omega, f, nx, q', _, rfl, hnl, by omega, hR, hst0, hsl2, hP3, (by first | (simp only [go_sem, Nat.reduceLT, Nat.reduceLeDiff, Nat.reduceEqDiff, Nat.reduceAdd, Nat.reduceSub, Nat.reduceMul, reduceIte, reduceCtorEq, h0] <;> rfl) | fail), (by first | (simp only [go_sem, Nat.reduceLT, Nat.reduceLeDiff, Nat.reduceEqDiff, Nat.reduceAdd, Nat.reduceSub, Nat.reduceMul, reduceIte, reduceCtorEq, h1] <;> rfl) | fail), (by first | (simp only [go_sem, Nat.reduceLT, Nat.reduceLeDiff, Nat.reduceEqDiff, Nat.reduceAdd, Nat.reduceSub, Nat.reduceMul, reduceIte, reduceCtorEq] <;> rfl) | fail), (by first | (simp only [go_sem, Nat.reduceLT, Nat.reduceLeDiff, Nat.reduceEqDiff, Nat.reduceAdd, Nat.reduceSub, Nat.reduceMul, reduceIte, reduceCtorEq] <;> rfl) | fail), (by first | (simp only [go_sem, Nat.reduceLT, Nat.reduceLeDiff, Nat.reduceEqDiff, Nat.reduceAdd, Nat.reduceSub, Nat.reduceMul, reduceIte, reduceCtorEq, h8] <;> rfl) | fail), (by first | (simp only [go_sem, Nat.reduceLT, Nat.reduceLeDiff, Nat.reduceEqDiff, Nat.reduceAdd, Nat.reduceSub, Nat.reduceMul, reduceIte, reduceCtorEq] <;> rfl) | fail)⟩
            · have hst : metaStep s n v = ⟨s.seen ++ [n], s.name, s.pragma, s.wanted⟩ := by unfold metaStep; rw [if_neg hmem, if_neg c1, if_neg c2, if_neg c3]
              rw [hst] at hR hst0
              have f3 := hnv _ _ c3
              repeat (first
                | refine sk_seq ?_
                | refine sk_region ?_
                | refine sk_ops_nil ?_
                | refine sk_block ?_
                | refine sk_blk ?_
                | refine sk_skip ?_
                | refine sk_exit rfl ?_
                | ((first | (apply sk_r; rfl; rfl) | (apply sk_w; rfl; rfl) | (apply sk_i; rfl) | (apply sk_g; rfl; rfl)); (simp only [go_sem, Nat.reduceLT, Nat.reduceLeDiff, Nat.reduceEqDiff, Nat.reduceAdd, Nat.reduceSub, Nat.reduceMul, reduceIte, reduceCtorEq, h0, h1, h6, h7, h8, h9, h10, h13, gA, gA2, gH, a1, kH, kT, kC, kW, f1, f2, f3] <;> rfl); (first | refine sk_id ?_ | refine cs_t ?_ | refine cs_f ?_ | refine gs_t rfl ?_ | refine gs_f rfl ?_)))
              exact sk_stop ⟨f, by omega, f, nx, q', _, rfl, hnl, by omega, hR, hst0, hsl2, hP3, (by first | (simp only [go_sem, Nat.reduceLT, Nat.reduceLeDiff, Nat.reduceEqDiff, Nat.reduceAdd, Nat.reduceSub, Nat.reduceMul, reduceIte, reduceCtorEq, h0] <;> rfl) | fail), (by first | (simp only [go_sem, Nat.reduceLT, Nat.reduceLeDiff, Nat.reduceEqDiff, Nat.reduceAdd, Nat.reduceSub, Nat.reduceMul, reduceIte, reduceCtorEq, h1] <;> rfl) | fail), (by first | (simp only [go_sem, Nat.reduceLT, Nat.reduceLeDiff, Nat.reduceEqDiff, Nat.reduceAdd, Nat.reduceSub, Nat.reduceMul, reduceIte, reduceCtorEq] <;> rfl) | fail), (by first | (simp only [go_sem, Nat.reduceLT, Nat.reduceLeDiff, Nat.reduceEqDiff, Nat.reduceAdd, Nat.reduceSub, Nat.reduceMul, reduceIte, reduceCtorEq, h7] <;> rfl) | fail), (by first | (simp only [go_sem, Nat.reduceLT, Nat.reduceLeDiff, Nat.reduceEqDiff, Nat.reduceAdd, Nat.reduceSub, Nat.reduceMul, reduceIte, reduceCtorEq, h8] <;> rfl) | fail), (by first | (simp only [go_sem, Nat.reduceLT, Nat.reduceLeDiff, Nat.reduceEqDiff, Nat.reduceAdd, Nat.reduceSub, Nat.reduceMul, reduceIte, reduceCtorEq, h9] <;> rfl) | fail)⟩
  rintro fr τ ⟨hkp, s, e, hR, h1, h7, h8, h9⟩
  have hall := metaGo_all hd (d.length + 1) k ⟨[], [], false, false⟩ hk (ok_nil _)
  unfold metaOf
  rw [hR] at hall ⊢
  simp only at hall ⊢
  have s37 := fun σ => f37_tr s.name hall.1.1 (by have := hall.1.2; omega) σ
  have f4 : beqL (Am.tr B5 s.name) [] = decide (Am.tr B5 s.name = []) := beqL_eq _ _
  cases hw : s.wanted <;> cases hp : s.pragma <;> rw [hw] at h9 <;> rw [hp] at h8
  case true.false =>
    repeat (first
      | refine sk_seq ?_
      | refine sk_region ?_
      | refine sk_ops_nil ?_
      | refine sk_block ?_
      | refine sk_blk ?_
      | refine sk_skip ?_
      | refine sk_exit rfl ?_
      | ((first | (apply sk_r; rfl; rfl) | (apply sk_w; rfl; rfl) | (apply sk_i; rfl) | (apply sk_g; rfl; rfl)); (simp only [go_sem, Nat.reduceLT, Nat.reduceLeDiff, Nat.reduceEqDiff, Nat.reduceAdd, Nat.reduceSub, Nat.reduceMul, reduceIte, reduceCtorEq, h1, h7, h8, h9] <;> rfl); (first | refine sk_id ?_ | refine cs_t ?_ | refine cs_f ?_ | refine gs_t rfl ?_ | refine gs_f rfl ?_)))
    exact sk_ret ⟨_, (by first | (simp only [aRet, Tryd.results34, aResults, aResult, go_sem, Nat.reduceLT, Nat.reduceLeDiff, Nat.reduceEqDiff, Nat.reduceAdd, Nat.reduceSub, Nat.reduceMul, reduceIte, reduceCtorEq] <;> rfl) | fail), rfl, hkp, by rw [if_pos (.inl rfl)]; rfl, by trivial⟩
  all_goals
    by_cases ht : Am.tr B5 s.name = []
    · rw [decide_eq_true ht] at f4
      repeat (first
        | refine sk_seq ?_
        | refine sk_region ?_
        | refine sk_ops_nil ?_
        | refine sk_block ?_
        | refine sk_blk ?_
        | refine sk_skip ?_
        | refine sk_exit rfl ?_
        | ((first | (apply sk_r; rfl; rfl) | (apply sk_w; rfl; rfl) | (apply sk_i; rfl) | (apply sk_g; rfl; rfl)); (simp only [go_sem, Nat.reduceLT, Nat.reduceLeDiff, Nat.reduceEqDiff, Nat.reduceAdd, Nat.reduceSub, Nat.reduceMul, reduceIte, reduceCtorEq, h1, h7, h8, h9, f4, bytes_nil] <;> rfl); (first | refine sk_id ?_ | refine cs_t ?_ | refine cs_f ?_ | refine gs_t rfl ?_ | refine gs_f rfl ?_))
        | ((first | (apply sk_c; rfl; rfl)); (simp only [go_sem, Nat.reduceLT, Nat.reduceLeDiff, Nat.reduceEqDiff, Nat.reduceAdd, Nat.reduceSub, Nat.reduceMul, reduceIte, reduceCtorEq, h1, h7, h8, h9, f4, bytes_nil] <;> rfl); (first
            | (refine (s37 _).mono ?_; rintro _ τ2 ⟨rfl, hτ2⟩; rw [hτ2])); refine sk_id ?_))
      exact sk_ret ⟨_, (by first | (simp only [aRet, Tryd.results34, aResults, aResult, go_sem, Nat.reduceLT, Nat.reduceLeDiff, Nat.reduceEqDiff, Nat.reduceAdd, Nat.reduceSub, Nat.reduceMul, reduceIte, reduceCtorEq] <;> rfl) | fail), rfl, hkp, by rw [if_pos (.inr ht)]; rfl, by trivial⟩
    · rw [decide_eq_false ht] at f4
      repeat (first
        | refine sk_seq ?_
        | refine sk_region ?_
        | refine sk_ops_nil ?_
        | refine sk_block ?_
        | refine sk_blk ?_
        | refine sk_skip ?_
        | refine sk_exit rfl ?_
        | ((first | (apply sk_r; rfl; rfl) | (apply sk_w; rfl; rfl) | (apply sk_i; rfl) | (apply sk_g; rfl; rfl)); (simp only [go_sem, Nat.reduceLT, Nat.reduceLeDiff, Nat.reduceEqDiff, Nat.reduceAdd, Nat.reduceSub, Nat.reduceMul, reduceIte, reduceCtorEq, h1, h7, h8, h9, f4, bytes_nil] <;> rfl); (first | refine sk_id ?_ | refine cs_t ?_ | refine cs_f ?_ | refine gs_t rfl ?_ | refine gs_f rfl ?_))
        | ((first | (apply sk_c; rfl; rfl)); (simp only [go_sem, Nat.reduceLT, Nat.reduceLeDiff, Nat.reduceEqDiff, Nat.reduceAdd, Nat.reduceSub, Nat.reduceMul, reduceIte, reduceCtorEq, h1, h7, h8, h9, f4, bytes_nil] <;> rfl); (first
            | (refine (s37 _).mono ?_; rintro _ τ2 ⟨rfl, hτ2⟩; rw [hτ2])); refine sk_id ?_))
      exact sk_ret ⟨_, (by first | (simp only [aRet, Tryd.results34, aResults, aResult, go_sem, Nat.reduceLT, Nat.reduceLeDiff, Nat.reduceEqDiff, Nat.reduceAdd, Nat.reduceSub, Nat.reduceMul, reduceIte, reduceCtorEq] <;> rfl) | fail), rfl, hkp, by rw [if_neg (by simp [ht])]; rfl, by trivial⟩
end Go.Proofs.YtophnlmdcidolaaDoor
