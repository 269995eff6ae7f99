import Derived.Test.YtophnlmdcidolaaDoorS4
set_option linter.all false
namespace Go.Am
theorem own_push {z : AV} {σ : AHeap} {D : Nat} {s : Dst} (h : Own z σ D s) (x : ABlock) : Own z (σ.push x) D s ∧ Fr σ D s (σ.push x) s := by
  have k : ∀ b y, σ.m.get b = some y → (σ.push x).m.get b = some y := keep_push h.wf (Nat.le_refl _) fun _ _ h => h
  exact ⟨⟨wf_push h.wf _, k _ _ h.d, fun e => k _ _ (h.o e), fun e => k _ _ (h.b e), h.n1, h.n2, h.n3⟩, by rw [next_push]; omega, fun b y hb ho => ⟨k b y hb, ho⟩⟩
theorem off_new {z : AV} {σ : AHeap} {D b : Nat} {s : Dst} (h : Own z σ D s) (hb : σ.next ≤ b) : Off s D b :=
  ⟨by have := wf_lt h.wf h.d; omega, fun e => by have := wf_lt h.wf (h.o e); omega, fun e => by have := wf_lt h.wf (h.b e); omega⟩
def winAV : List AV := [.int .i64 8364, .int .i64 129, .int .i64 8218, .int .i64 402, .int .i64 8222, .int .i64 8230, .int .i64 8224, .int .i64 8225, .int .i64 710, .int .i64 8240, .int .i64 352, .int .i64 8249, .int .i64 338, .int .i64 141, .int .i64 381, .int .i64 143, .int .i64 144, .int .i64 8216, .int .i64 8217, .int .i64 8220, .int .i64 8221, .int .i64 8226, .int .i64 8211, .int .i64 8212, .int .i64 732, .int .i64 8482, .int .i64 353, .int .i64 8250, .int .i64 339, .int .i64 157, .int .i64 382, .int .i64 376]
theorem win_get : ∀ k, k < 32 → ∃ v : Int, winAV[k]? = some (.int .i64 v) := by
  intro k hk
  match k, hk with
  | 0, _ => exact ⟨_, rfl⟩
  | 1, _ => exact ⟨_, rfl⟩
  | 2, _ => exact ⟨_, rfl⟩
  | 3, _ => exact ⟨_, rfl⟩
  | 4, _ => exact ⟨_, rfl⟩
  | 5, _ => exact ⟨_, rfl⟩
  | 6, _ => exact ⟨_, rfl⟩
  | 7, _ => exact ⟨_, rfl⟩
  | 8, _ => exact ⟨_, rfl⟩
  | 9, _ => exact ⟨_, rfl⟩
  | 10, _ => exact ⟨_, rfl⟩
  | 11, _ => exact ⟨_, rfl⟩
  | 12, _ => exact ⟨_, rfl⟩
  | 13, _ => exact ⟨_, rfl⟩
  | 14, _ => exact ⟨_, rfl⟩
  | 15, _ => exact ⟨_, rfl⟩
  | 16, _ => exact ⟨_, rfl⟩
  | 17, _ => exact ⟨_, rfl⟩
  | 18, _ => exact ⟨_, rfl⟩
  | 19, _ => exact ⟨_, rfl⟩
  | 20, _ => exact ⟨_, rfl⟩
  | 21, _ => exact ⟨_, rfl⟩
  | 22, _ => exact ⟨_, rfl⟩
  | 23, _ => exact ⟨_, rfl⟩
  | 24, _ => exact ⟨_, rfl⟩
  | 25, _ => exact ⟨_, rfl⟩
  | 26, _ => exact ⟨_, rfl⟩
  | 27, _ => exact ⟨_, rfl⟩
  | 28, _ => exact ⟨_, rfl⟩
  | 29, _ => exact ⟨_, rfl⟩
  | 30, _ => exact ⟨_, rfl⟩
  | 31, _ => exact ⟨_, rfl⟩
  | k + 32, hk => omega
end Go.Am
namespace Go.Proofs.YtophnlmdcidolaaDoor
open Go Go.Am
set_option maxHeartbeats 8000000
set_option maxRecDepth 100000

theorem rd_win (fr : PT AV) (m : PT ABlock) : rd Tryd.prog (aeval fr) m (.build 70 #[(0, .const (.int .i64 8364)), (1, .const (.int .i64 129)), (2, .const (.int .i64 8218)), (3, .const (.int .i64 402)), (4, .const (.int .i64 8222)), (5, .const (.int .i64 8230)), (6, .const (.int .i64 8224)), (7, .const (.int .i64 8225)), (8, .const (.int .i64 710)), (9, .const (.int .i64 8240)), (10, .const (.int .i64 352)), (11, .const (.int .i64 8249)), (12, .const (.int .i64 338)), (13, .const (.int .i64 141)), (14, .const (.int .i64 381)), (15, .const (.int .i64 143)), (16, .const (.int .i64 144)), (17, .const (.int .i64 8216)), (18, .const (.int .i64 8217)), (19, .const (.int .i64 8220)), (20, .const (.int .i64 8221)), (21, .const (.int .i64 8226)), (22, .const (.int .i64 8211)), (23, .const (.int .i64 8212)), (24, .const (.int .i64 732)), (25, .const (.int .i64 8482)), (26, .const (.int .i64 353)), (27, .const (.int .i64 8250)), (28, .const (.int .i64 339)), (29, .const (.int .i64 157)), (30, .const (.int .i64 382)), (31, .const (.int .i64 376))]) = some (.agg winAV) := by kernel_rfl
theorem win_len : winAV.length = 32 := rfl
theorem win_one : oneAll winAV = true := by kernel_rfl
theorem win_lay : lay (List.replicate 32 (.int .i64 0)) 0 winAV = some winAV := by kernel_rfl
theorem win_sub : sub winAV 0 32 = some winAV := by kernel_rfl

theorem f39_tr (σ : AHeap) : Tr Tryd.prog 39 [] σ fun v σ' => v = .agg winAV ∧ σ' = σ := by
  refine Tr.wf fun hW => Tr.pure ?_
  refine sk_body (m := 2) Tryd.func39 rfl (by decide) rfl ?_
  repeat (first
    | (apply sk_r; rfl; rfl; exact rd_win _ _)
    | refine sk_seq ?_
    | refine sk_region ?_
    | refine sk_ops_nil ?_
    | refine sk_block ?_
    | refine sk_blk ?_
    | refine sk_skip ?_
    | refine sk_exit rfl ?_
    | ((first | (apply sk_r; rfl; rfl) | (apply sk_w; rfl; rfl) | (apply sk_i; rfl) | (apply sk_g; rfl; rfl)); (simp only [go_sem, Nat.reduceLT, Nat.reduceLeDiff, Nat.reduceEqDiff, Nat.reduceAdd, Nat.reduceSub, Nat.reduceMul, reduceIte, reduceCtorEq, zo70, win_len, win_one, win_lay] <;> rfl); (first | refine sk_id ?_ | refine cs_t ?_ | refine cs_f ?_ | refine gs_t rfl ?_ | refine gs_f rfl ?_)))
  exact sk_ret ⟨_, (by first | (simp only [aRet, Tryd.results39, aResults, aResult, go_sem, Nat.reduceLT, Nat.reduceLeDiff, Nat.reduceEqDiff, Nat.reduceAdd, Nat.reduceSub, Nat.reduceMul, reduceIte, reduceCtorEq, win_sub] <;> rfl) | fail), rfl, keep_push hW (Nat.le_refl _) fun _ _ h => h, rfl, rfl⟩
end Go.Proofs.YtophnlmdcidolaaDoor
namespace Go.Proofs.YtophnlmdcidolaaDoor
open Go Go.Am
set_option maxHeartbeats 8000000
set_option maxRecDepth 100000

/-- what holds behind i bytes -/
structure Fed (u : Bool) (data : List Nat) (s : Dst) (i : Nat) : Prop where
  inv : Inv u s i
  plain : (∀ c ∈ data.take i, c < 128) → Plain s (data.take i)
  win : u = false → s.lf = 0 ∧ s.bad = []

theorem fed_put {data : List Nat} {s : Dst} {i c : Nat} (h : Fed false data s i) (hc : data[i]? = some c) (v : Int) (hv : c < 128 → v = (c : Int)) (ob : Nat) : Fed false data { s with out := s.out ++ [(v, s.pl)], ob := ob, pl := i + 1 } (i + 1) := by
  obtain ⟨w1, w2⟩ := h.win rfl
  have hr := h.inv.rise
  rw [if_pos w1] at hr
  refine ⟨⟨h.inv.u, rfl, h.inv.lf, fun k => absurd k (by show ¬ 0 < s.lf; omega), ?_, ?_⟩, fun hp => ?_, fun _ => ⟨w1, w2⟩⟩
  · show Rise (s.out ++ [(v, s.pl)]) (if s.lf = 0 then i + 1 else s.bg)
    rw [if_pos w1, h.inv.pl]
    exact rise_app hr (Nat.le_refl _) (by omega) _
  · show s.bad.length ≤ (s.out ++ [(v, s.pl)]).length
    rw [w2]; exact Nat.zero_le _
  · rw [List.take_succ, hc] at hp ⊢
    have hp1 := h.plain fun b hb => hp b (List.mem_append.2 (.inl hb))
    have hc8 := hp c (by simp)
    refine ⟨w1, ?_, w2⟩
    show s.out ++ [(v, s.pl)] = asMap 0 (data.take i ++ [c])
    have hi : i < data.length := (List.getElem?_eq_some_iff.1 hc).1
    rw [asMap_app, hp1.out, hv hc8, h.inv.pl, List.length_take, Nat.min_eq_left (by omega), Nat.zero_add]

theorem fed_took {data : List Nat} {s s' : Dst} {i c : Nat} (h : Fed true data s i) (hc : data[i]? = some c) (e1 : s'.u = s.u) (e2 : s'.pl = s.pl) (t : Took s s' c) : Fed true data { s' with pl := i + 1 } (i + 1) := by
  refine ⟨took_inv h.inv e1 e2 t, fun hp => ?_, fun e => by cases e⟩
  rw [List.take_succ, hc] at hp ⊢
  have hi : i < data.length := (List.getElem?_eq_some_iff.1 hc).1
  exact took_plain (h.plain fun b hb => hp b (List.mem_append.2 (.inl hb))) (by rw [h.inv.pl, List.length_take, Nat.min_eq_left (by omega)]) (hp c (by simp)) t _

theorem f27_tr {σ : AHeap} {D : Nat} {s : Dst} {u : Bool} (data : List Nat) (hd8 : ∀ c ∈ data, c < 256) (hl : data.length ≤ 900000) (h : OwnD σ D s) (hf : Fed u data s 0) :
    Tr Tryd.prog 27 [.ptr D 0, .str data] σ fun r σ' => ∃ s' σ2, r = .tuple [slV s'.ob s'.out.length 2, slV s'.bb s'.bad.length 3] ∧ OwnD σ2 D s' ∧ Fr σ D s σ2 s' ∧ σ' = σ2.put D (.cells (cellsOf { s' with out := [], bad := [] }) false 0 []) [] ∧ Fed u data s' data.length := by
  refine sk_body (m := 64) Tryd.func27 rfl (by decide) rfl ?_
  obtain ⟨p1, p2⟩ := own_push h (.cells winAV false 0 [])
  obtain ⟨q1, q2⟩ := own_push p1 (.cells (bytesAV data) false 0 [])
  have oT : Off s D σ.next := off_new h (Nat.le_refl _)
  have oY : Off s D (σ.next + 1) := off_new p1 (Nat.le_refl _)
  repeat (first
    | refine sk_seq ?_
    | refine sk_region ?_
    | refine sk_ops_nil ?_
    | refine sk_draw_nil ?_
    | refine sk_block ?_
    | refine sk_blk ?_
    | refine sk_skip ?_
    | refine sk_exit rfl ?_
    | refine sk_draw (id := 11) [0, 1, 2, 3, 4, 5, 6, 7, 8, 9] mixed (by kernel_rfl) ?_
    | ((first | (apply sk_r; rfl; rfl) | (apply sk_w; rfl; rfl) | (apply sk_i; rfl) | (apply sk_g; rfl; rfl) | (apply sk_dr; rfl; rfl; rfl) | (apply sk_dg; rfl; rfl; rfl; rfl; rfl) | apply drd_i); (simp only [go_sem, Nat.reduceLT, Nat.reduceLeDiff, Nat.reduceEqDiff, Nat.reduceAdd, Nat.reduceSub, Nat.reduceMul, reduceIte, reduceCtorEq, zo70, win_len, win_one, win_lay] <;> rfl); (first | refine sk_id ?_ | refine cs_t ?_ | refine cs_f ?_ | refine gs_t rfl ?_ | refine gs_f rfl ?_ | ((repeat (first | exact trivial | ((first | (apply redos_r; rfl; rfl) | (apply redos_g; rfl; rfl; rfl; rfl)); (simp only [go_sem, Nat.reduceLT, Nat.reduceLeDiff, Nat.reduceEqDiff, Nat.reduceAdd, Nat.reduceSub, Nat.reduceMul, reduceIte, reduceCtorEq, zo70, win_len, win_one, win_lay] <;> rfl)) | (apply redos_s; rfl; rfl; rfl; (simp only [go_sem, Nat.reduceLT, Nat.reduceLeDiff, Nat.reduceEqDiff, Nat.reduceAdd, Nat.reduceSub, Nat.reduceMul, reduceIte, reduceCtorEq, zo70, win_len, win_one, win_lay] <;> rfl)))); refine sk_id ?_)))
    | (apply sk_w; rfl; rfl; (simp only [go_sem, Nat.reduceLT, Nat.reduceLeDiff, Nat.reduceEqDiff, Nat.reduceAdd, Nat.reduceSub, Nat.reduceMul, reduceIte, reduceCtorEq, zo70, win_len, win_one, win_lay] <;> rfl); refine sk_id ?_)
    | ((first | (apply sk_c; rfl; rfl) | (apply sk_dnc (i := 9) (fl := []); rfl; rfl; decide +kernel; rfl)); (simp only [go_sem, Nat.reduceLT, Nat.reduceLeDiff, Nat.reduceEqDiff, Nat.reduceAdd, Nat.reduceSub, Nat.reduceMul, reduceIte, reduceCtorEq, zo70, win_len, win_one, win_lay] <;> rfl); (first
        | (refine (f39_tr _).mono ?_; rintro _ τ ⟨rfl, hτ⟩; rw [hτ])); (first | refine sk_id ?_ | (refine ⟨?_, ?_⟩; (repeat (first | exact trivial | ((first | (apply redos_r; rfl; rfl) | (apply redos_g; rfl; rfl; rfl; rfl)); (simp only [go_sem, Nat.reduceLT, Nat.reduceLeDiff, Nat.reduceEqDiff, Nat.reduceAdd, Nat.reduceSub, Nat.reduceMul, reduceIte, reduceCtorEq, zo70, win_len, win_one, win_lay] <;> rfl)) | (apply redos_s; rfl; rfl; rfl; (simp only [go_sem, Nat.reduceLT, Nat.reduceLeDiff, Nat.reduceEqDiff, Nat.reduceAdd, Nat.reduceSub, Nat.reduceMul, reduceIte, reduceCtorEq, zo70, win_len, win_one, win_lay] <;> rfl)))); refine sk_id ?_))))
  refine sk_loop (fun m fr σ' => ∃ i s', m = data.length - i ∧ i ≤ data.length ∧ OwnD σ' D s' ∧ Fr σ D s σ' s' ∧ σ'.m.get σ.next = some (.cells winAV false 0 []) ∧ σ'.m.get (σ.next + 1) = some (.cells (bytesAV data) false 0 []) ∧ Off s' D σ.next ∧ Off s' D (σ.next + 1) ∧ Fed u data s' i ∧
    fget fr 0 = .ptr D 0 ∧ fget fr 6 = .ptr σ.next 0 ∧ fget fr 13 = .slice (σ.next + 1) 0 data.length data.length false 1 ∧ fget fr 14 = .int .i64 (data.length : Nat) ∧ fget fr 15 = .int .i64 (i : Nat)) _
    ⟨0, s, rfl, Nat.zero_le _, q1, p2.trans q2, (q2.2 _ _ (get_push_same σ _) oT).1, get_push_same (σ.push _) _, oT, oY, hf, (by first | (simp only [go_sem, Nat.reduceLT, Nat.reduceLeDiff, Nat.reduceEqDiff, Nat.reduceAdd, Nat.reduceSub, Nat.reduceMul, reduceIte, reduceCtorEq] <;> rfl) | fail), (by first | (simp only [go_sem, Nat.reduceLT, Nat.reduceLeDiff, Nat.reduceEqDiff, Nat.reduceAdd, Nat.reduceSub, Nat.reduceMul, reduceIte, reduceCtorEq] <;> rfl) | fail), (by first | (simp only [go_sem, Nat.reduceLT, Nat.reduceLeDiff, Nat.reduceEqDiff, Nat.reduceAdd, Nat.reduceSub, Nat.reduceMul, reduceIte, reduceCtorEq] <;> rfl) | fail), (by first | (simp only [go_sem, Nat.reduceLT, Nat.reduceLeDiff, Nat.reduceEqDiff, Nat.reduceAdd, Nat.reduceSub, Nat.reduceMul, reduceIte, reduceCtorEq] <;> rfl) | fail), (by first | (simp only [go_sem, Nat.reduceLT, Nat.reduceLeDiff, Nat.reduceEqDiff, Nat.reduceAdd, Nat.reduceSub, Nat.reduceMul, reduceIte, reduceCtorEq] <;> rfl) | fail)⟩ ?_
  clear p1 p2 q1 q2 oT oY
  rintro _ fr τ0 ⟨i, s1, rfl, hi, hO, hfr, hT, hY, oT, oY, hF, h0, h6, h13, h14, h15⟩
  have hd := hO.d
  unfold cellsOf at hd
  by_cases hil : i < data.length
  · obtain ⟨c, hc⟩ := at_some hil
    have hc8 := hd8 c (at_mem hc)
    have e1 : decide ((i : Int) < (data.length : Int)) = true := decide_eq_true (by omega)
    have e2 : (0 : Int) ≤ (i : Int) := by omega
    have e3 : (i : Int) < (data.length : Int) := by omega
    have e4 : IntKind.wrap .i64 ((i : Int) + 1) = ((i + 1 : Nat) : Int) := wrap_i64 (by omega) (by omega)
    have e5 : (bytesAV data)[i]? = some (.int .u8 c) := by rw [bytesAV_get, hc]
    have hlen := hF.inv.len
    have hbl := hF.inv.bad
    have hpl := hF.inv.pl
    cases u with
    | true =>
      have hu := hF.inv.u
      rw [hu] at hd
      repeat (first
        | refine sk_seq ?_
        | refine sk_region ?_
        | refine sk_ops_nil ?_
        | refine sk_draw_nil ?_
        | refine sk_block ?_
        | refine sk_blk ?_
        | refine sk_skip ?_
        | refine sk_exit rfl ?_
        | refine sk_draw (id := 11) [0, 1, 2, 3, 4, 5, 6, 7, 8, 9] mixed (by kernel_rfl) ?_
        | ((first | (apply sk_r; rfl; rfl) | (apply sk_w; rfl; rfl) | (apply sk_i; rfl) | (apply sk_g; rfl; rfl) | (apply sk_dr; rfl; rfl; rfl) | (apply sk_dg; rfl; rfl; rfl; rfl; rfl) | apply drd_i); (simp only [go_sem, Nat.reduceLT, Nat.reduceLeDiff, Nat.reduceEqDiff, Nat.reduceAdd, Nat.reduceSub, Nat.reduceMul, reduceIte, reduceCtorEq, h0, h6, h13, h14, h15, hd, hY, e1, e2, e3, e5, and_self] <;> rfl); (first | refine sk_id ?_ | refine cs_t ?_ | refine cs_f ?_ | refine gs_t rfl ?_ | refine gs_f rfl ?_ | ((repeat (first | exact trivial | ((first | (apply redos_r; rfl; rfl) | (apply redos_g; rfl; rfl; rfl; rfl)); (simp only [go_sem, Nat.reduceLT, Nat.reduceLeDiff, Nat.reduceEqDiff, Nat.reduceAdd, Nat.reduceSub, Nat.reduceMul, reduceIte, reduceCtorEq, h0, h6, h13, h14, h15, hd, hY, e1, e2, e3, e5, and_self] <;> rfl)) | (apply redos_s; rfl; rfl; rfl; (simp only [go_sem, Nat.reduceLT, Nat.reduceLeDiff, Nat.reduceEqDiff, Nat.reduceAdd, Nat.reduceSub, Nat.reduceMul, reduceIte, reduceCtorEq, h0, h6, h13, h14, h15, hd, hY, e1, e2, e3, e5, and_self] <;> rfl)))); refine sk_id ?_)))
        | (apply sk_w; rfl; rfl; (simp only [go_sem, Nat.reduceLT, Nat.reduceLeDiff, Nat.reduceEqDiff, Nat.reduceAdd, Nat.reduceSub, Nat.reduceMul, reduceIte, reduceCtorEq, h0, h6, h13, h14, h15, hd, hY, e1, e2, e3, e5, and_self] <;> rfl); refine sk_id ?_)
        | ((first | (apply sk_c; rfl; rfl) | (apply sk_dnc (i := 9) (fl := []); rfl; rfl; decide +kernel; rfl)); (simp only [go_sem, Nat.reduceLT, Nat.reduceLeDiff, Nat.reduceEqDiff, Nat.reduceAdd, Nat.reduceSub, Nat.reduceMul, reduceIte, reduceCtorEq, h0, h6, h13, h14, h15, hd, hY, e1, e2, e3, e5, and_self] <;> rfl); (first
            | (refine (f40_tr c hc8 hO hF.inv.lf (by omega) (by omega)).mono ?_; rintro _ τ ⟨rfl, s2, t1, t2, t3, t4, t5⟩)); (first | refine sk_id ?_ | (refine ⟨?_, ?_⟩; (repeat (first | exact trivial | ((first | (apply redos_r; rfl; rfl) | (apply redos_g; rfl; rfl; rfl; rfl)); (simp only [go_sem, Nat.reduceLT, Nat.reduceLeDiff, Nat.reduceEqDiff, Nat.reduceAdd, Nat.reduceSub, Nat.reduceMul, reduceIte, reduceCtorEq, h0, h6, h13, h14, h15, hd, hY, e1, e2, e3, e5, and_self] <;> rfl)) | (apply redos_s; rfl; rfl; rfl; (simp only [go_sem, Nat.reduceLT, Nat.reduceLeDiff, Nat.reduceEqDiff, Nat.reduceAdd, Nat.reduceSub, Nat.reduceMul, reduceIte, reduceCtorEq, h0, h6, h13, h14, h15, hd, hY, e1, e2, e3, e5, and_self] <;> rfl)))); refine sk_id ?_))))
      clear hd
      have hd3 := t1.d
      unfold cellsOf at hd3
      have e9 : IntKind.wrap .i64 ((s2.pl : Int) + 1) = ((i + 1 : Nat) : Int) := by rw [t4, hpl]; exact e4
      have z := own_st t1 (i + 1) s2.bg s2.lf s2.vl s2.lo s2.hi
      repeat (first
        | refine sk_seq ?_
        | refine sk_region ?_
        | refine sk_ops_nil ?_
        | refine sk_draw_nil ?_
        | refine sk_block ?_
        | refine sk_blk ?_
        | refine sk_skip ?_
        | refine sk_exit rfl ?_
        | refine sk_draw (id := 11) [0, 1, 2, 3, 4, 5, 6, 7, 8, 9] mixed (by kernel_rfl) ?_
        | ((first | (apply sk_r; rfl; rfl) | (apply sk_w; rfl; rfl) | (apply sk_i; rfl) | (apply sk_g; rfl; rfl) | (apply sk_dr; rfl; rfl; rfl) | (apply sk_dg; rfl; rfl; rfl; rfl; rfl) | apply drd_i); (simp only [go_sem, Nat.reduceLT, Nat.reduceLeDiff, Nat.reduceEqDiff, Nat.reduceAdd, Nat.reduceSub, Nat.reduceMul, reduceIte, reduceCtorEq, h0, h6, h13, h14, h15, hd3, e4, e9] <;> rfl); (first | refine sk_id ?_ | refine cs_t ?_ | refine cs_f ?_ | refine gs_t rfl ?_ | refine gs_f rfl ?_ | ((repeat (first | exact trivial | ((first | (apply redos_r; rfl; rfl) | (apply redos_g; rfl; rfl; rfl; rfl)); (simp only [go_sem, Nat.reduceLT, Nat.reduceLeDiff, Nat.reduceEqDiff, Nat.reduceAdd, Nat.reduceSub, Nat.reduceMul, reduceIte, reduceCtorEq, h0, h6, h13, h14, h15, hd3, e4, e9] <;> rfl)) | (apply redos_s; rfl; rfl; rfl; (simp only [go_sem, Nat.reduceLT, Nat.reduceLeDiff, Nat.reduceEqDiff, Nat.reduceAdd, Nat.reduceSub, Nat.reduceMul, reduceIte, reduceCtorEq, h0, h6, h13, h14, h15, hd3, e4, e9] <;> rfl)))); refine sk_id ?_)))
        | (apply sk_w; rfl; rfl; (simp only [go_sem, Nat.reduceLT, Nat.reduceLeDiff, Nat.reduceEqDiff, Nat.reduceAdd, Nat.reduceSub, Nat.reduceMul, reduceIte, reduceCtorEq, h0, h6, h13, h14, h15, hd3, e4, e9] <;> rfl); refine sk_id ?_))
      exact sk_stop ⟨data.length - (i + 1), by omega, i + 1, _, rfl, by omega, z.1, (hfr.trans t2).trans z.2, ((t2.trans z.2).2 _ _ hT oT).1, ((t2.trans z.2).2 _ _ hY oY).1, ((t2.trans z.2).2 _ _ hT oT).2, ((t2.trans z.2).2 _ _ hY oY).2, fed_took hF hc t3 t4 t5, (by first | (simp only [go_sem, Nat.reduceLT, Nat.reduceLeDiff, Nat.reduceEqDiff, Nat.reduceAdd, Nat.reduceSub, Nat.reduceMul, reduceIte, reduceCtorEq, h0] <;> rfl) | fail), (by first | (simp only [go_sem, Nat.reduceLT, Nat.reduceLeDiff, Nat.reduceEqDiff, Nat.reduceAdd, Nat.reduceSub, Nat.reduceMul, reduceIte, reduceCtorEq, h6] <;> rfl) | fail), (by first | (simp only [go_sem, Nat.reduceLT, Nat.reduceLeDiff, Nat.reduceEqDiff, Nat.reduceAdd, Nat.reduceSub, Nat.reduceMul, reduceIte, reduceCtorEq, h13] <;> rfl) | fail), (by first | (simp only [go_sem, Nat.reduceLT, Nat.reduceLeDiff, Nat.reduceEqDiff, Nat.reduceAdd, Nat.reduceSub, Nat.reduceMul, reduceIte, reduceCtorEq, h14] <;> rfl) | fail), (by first | (simp only [go_sem, Nat.reduceLT, Nat.reduceLeDiff, Nat.reduceEqDiff, Nat.reduceAdd, Nat.reduceSub, Nat.reduceMul, reduceIte, reduceCtorEq] <;> rfl) | fail)⟩
    | false =>
      have hu := hF.inv.u
      rw [hu] at hd
      by_cases h1 : 128 ≤ c ∧ c < 160
      · have f1 : decide ((c : Int) ≥ 128) = true := decide_eq_true (by omega)
        have f2 : decide ((c : Int) < 160) = true := decide_eq_true (by omega)
        obtain ⟨v, hv⟩ := win_get (c - 128) (by omega)
        have f3 : IntKind.wrap .u8 ((c : Int) - 128) = ((c - 128 : Nat) : Int) := by
          unfold IntKind.wrap
          simp only [IntKind.bits, IntKind.signed]
          have : ((2:Int)^8) = 256 := by decide
          simp only [this, Bool.false_and]
          split
          · rename_i h; simp at h
          · omega
        have f4 : (0 : Int) ≤ ((c - 128 : Nat) : Int) := by omega
        have f5 : ((c - 128 : Nat) : Int) < ((32 : Nat) : Int) := by omega
        repeat (first
          | refine sk_seq ?_
          | refine sk_region ?_
          | refine sk_ops_nil ?_
          | refine sk_draw_nil ?_
          | refine sk_block ?_
          | refine sk_blk ?_
          | refine sk_skip ?_
          | refine sk_exit rfl ?_
          | refine sk_draw (id := 11) [0, 1, 2, 3, 4, 5, 6, 7, 8, 9] mixed (by kernel_rfl) ?_
          | ((first | (apply sk_r; rfl; rfl) | (apply sk_w; rfl; rfl) | (apply sk_i; rfl) | (apply sk_g; rfl; rfl) | (apply sk_dr; rfl; rfl; rfl) | (apply sk_dg; rfl; rfl; rfl; rfl; rfl) | apply drd_i); (simp only [go_sem, Nat.reduceLT, Nat.reduceLeDiff, Nat.reduceEqDiff, Nat.reduceAdd, Nat.reduceSub, Nat.reduceMul, reduceIte, reduceCtorEq, h0, h6, h13, h14, h15, hd, hY, hT, e1, e2, e3, e5, f1, f2, f3, f4, f5, hv, and_self] <;> rfl); (first | refine sk_id ?_ | refine cs_t ?_ | refine cs_f ?_ | refine gs_t rfl ?_ | refine gs_f rfl ?_ | ((repeat (first | exact trivial | ((first | (apply redos_r; rfl; rfl) | (apply redos_g; rfl; rfl; rfl; rfl)); (simp only [go_sem, Nat.reduceLT, Nat.reduceLeDiff, Nat.reduceEqDiff, Nat.reduceAdd, Nat.reduceSub, Nat.reduceMul, reduceIte, reduceCtorEq, h0, h6, h13, h14, h15, hd, hY, hT, e1, e2, e3, e5, f1, f2, f3, f4, f5, hv, and_self] <;> rfl)) | (apply redos_s; rfl; rfl; rfl; (simp only [go_sem, Nat.reduceLT, Nat.reduceLeDiff, Nat.reduceEqDiff, Nat.reduceAdd, Nat.reduceSub, Nat.reduceMul, reduceIte, reduceCtorEq, h0, h6, h13, h14, h15, hd, hY, hT, e1, e2, e3, e5, f1, f2, f3, f4, f5, hv, and_self] <;> rfl)))); refine sk_id ?_)))
          | (apply sk_w; rfl; rfl; (simp only [go_sem, Nat.reduceLT, Nat.reduceLeDiff, Nat.reduceEqDiff, Nat.reduceAdd, Nat.reduceSub, Nat.reduceMul, reduceIte, reduceCtorEq, h0, h6, h13, h14, h15, hd, hY, hT, e1, e2, e3, e5, f1, f2, f3, f4, f5, hv, and_self] <;> rfl); refine sk_id ?_)
          | ((first | (apply sk_c; rfl; rfl) | (apply sk_dnc (i := 9) (fl := []); rfl; rfl; decide +kernel; rfl)); (simp only [go_sem, Nat.reduceLT, Nat.reduceLeDiff, Nat.reduceEqDiff, Nat.reduceAdd, Nat.reduceSub, Nat.reduceMul, reduceIte, reduceCtorEq, h0, h6, h13, h14, h15, hd, hY, hT, e1, e2, e3, e5, f1, f2, f3, f4, f5, hv, and_self] <;> rfl); (first
              | (refine (f41_tr v s1.pl hO (by omega)).mono ?_; rintro _ τ ⟨rfl, ob, t1, t2⟩)); (first | refine sk_id ?_ | (refine ⟨?_, ?_⟩; (repeat (first | exact trivial | ((first | (apply redos_r; rfl; rfl) | (apply redos_g; rfl; rfl; rfl; rfl)); (simp only [go_sem, Nat.reduceLT, Nat.reduceLeDiff, Nat.reduceEqDiff, Nat.reduceAdd, Nat.reduceSub, Nat.reduceMul, reduceIte, reduceCtorEq, h0, h6, h13, h14, h15, hd, hY, hT, e1, e2, e3, e5, f1, f2, f3, f4, f5, hv, and_self] <;> rfl)) | (apply redos_s; rfl; rfl; rfl; (simp only [go_sem, Nat.reduceLT, Nat.reduceLeDiff, Nat.reduceEqDiff, Nat.reduceAdd, Nat.reduceSub, Nat.reduceMul, reduceIte, reduceCtorEq, h0, h6, h13, h14, h15, hd, hY, hT, e1, e2, e3, e5, f1, f2, f3, f4, f5, hv, and_self] <;> rfl)))); refine sk_id ?_))))
        clear hd
        have hd3 := t1.d
        unfold cellsOf at hd3
        have e9 : IntKind.wrap .i64 ((s1.pl : Int) + 1) = ((i + 1 : Nat) : Int) := by rw [hpl]; exact e4
        have z := own_st t1 (i + 1) s1.bg s1.lf s1.vl s1.lo s1.hi
        repeat (first
          | refine sk_seq ?_
          | refine sk_region ?_
          | refine sk_ops_nil ?_
          | refine sk_draw_nil ?_
          | refine sk_block ?_
          | refine sk_blk ?_
          | refine sk_skip ?_
          | refine sk_exit rfl ?_
          | refine sk_draw (id := 11) [0, 1, 2, 3, 4, 5, 6, 7, 8, 9] mixed (by kernel_rfl) ?_
          | ((first | (apply sk_r; rfl; rfl) | (apply sk_w; rfl; rfl) | (apply sk_i; rfl) | (apply sk_g; rfl; rfl) | (apply sk_dr; rfl; rfl; rfl) | (apply sk_dg; rfl; rfl; rfl; rfl; rfl) | apply drd_i); (simp only [go_sem, Nat.reduceLT, Nat.reduceLeDiff, Nat.reduceEqDiff, Nat.reduceAdd, Nat.reduceSub, Nat.reduceMul, reduceIte, reduceCtorEq, h0, h6, h13, h14, h15, hd3, e4, e9] <;> rfl); (first | refine sk_id ?_ | refine cs_t ?_ | refine cs_f ?_ | refine gs_t rfl ?_ | refine gs_f rfl ?_ | ((repeat (first | exact trivial | ((first | (apply redos_r; rfl; rfl) | (apply redos_g; rfl; rfl; rfl; rfl)); (simp only [go_sem, Nat.reduceLT, Nat.reduceLeDiff, Nat.reduceEqDiff, Nat.reduceAdd, Nat.reduceSub, Nat.reduceMul, reduceIte, reduceCtorEq, h0, h6, h13, h14, h15, hd3, e4, e9] <;> rfl)) | (apply redos_s; rfl; rfl; rfl; (simp only [go_sem, Nat.reduceLT, Nat.reduceLeDiff, Nat.reduceEqDiff, Nat.reduceAdd, Nat.reduceSub, Nat.reduceMul, reduceIte, reduceCtorEq, h0, h6, h13, h14, h15, hd3, e4, e9] <;> rfl)))); refine sk_id ?_)))
          | (apply sk_w; rfl; rfl; (simp only [go_sem, Nat.reduceLT, Nat.reduceLeDiff, Nat.reduceEqDiff, Nat.reduceAdd, Nat.reduceSub, Nat.reduceMul, reduceIte, reduceCtorEq, h0, h6, h13, h14, h15, hd3, e4, e9] <;> rfl); refine sk_id ?_))
        exact sk_stop ⟨data.length - (i + 1), by omega, i + 1, _, rfl, by omega, z.1, (hfr.trans t2).trans z.2, ((t2.trans z.2).2 _ _ hT oT).1, ((t2.trans z.2).2 _ _ hY oY).1, ((t2.trans z.2).2 _ _ hT oT).2, ((t2.trans z.2).2 _ _ hY oY).2, fed_put hF hc v (fun k => absurd k (by omega)) ob, (by first | (simp only [go_sem, Nat.reduceLT, Nat.reduceLeDiff, Nat.reduceEqDiff, Nat.reduceAdd, Nat.reduceSub, Nat.reduceMul, reduceIte, reduceCtorEq, h0] <;> rfl) | fail), (by first | (simp only [go_sem, Nat.reduceLT, Nat.reduceLeDiff, Nat.reduceEqDiff, Nat.reduceAdd, Nat.reduceSub, Nat.reduceMul, reduceIte, reduceCtorEq, h6] <;> rfl) | fail), (by first | (simp only [go_sem, Nat.reduceLT, Nat.reduceLeDiff, Nat.reduceEqDiff, Nat.reduceAdd, Nat.reduceSub, Nat.reduceMul, reduceIte, reduceCtorEq, h13] <;> rfl) | fail), (by first | (simp only [go_sem, Nat.reduceLT, Nat.reduceLeDiff, Nat.reduceEqDiff, Nat.reduceAdd, Nat.reduceSub, Nat.reduceMul, reduceIte, reduceCtorEq, h14] <;> rfl) | fail), (by first | (simp only [go_sem, Nat.reduceLT, Nat.reduceLeDiff, Nat.reduceEqDiff, Nat.reduceAdd, Nat.reduceSub, Nat.reduceMul, reduceIte, reduceCtorEq] <;> rfl) | fail)⟩
      · have ew : IntKind.wrap .i64 (c : Int) = (c : Int) := wrap_i64 (by omega) (by omega)
        by_cases h2 : 128 ≤ c
        · have f1 : decide ((c : Int) ≥ 128) = true := decide_eq_true (by omega)
          have f2 : decide ((c : Int) < 160) = false := decide_eq_false (by omega)
          repeat (first
            | refine sk_seq ?_
            | refine sk_region ?_
            | refine sk_ops_nil ?_
            | refine sk_draw_nil ?_
            | refine sk_block ?_
            | refine sk_blk ?_
            | refine sk_skip ?_
            | refine sk_exit rfl ?_
            | refine sk_draw (id := 11) [0, 1, 2, 3, 4, 5, 6, 7, 8, 9] mixed (by kernel_rfl) ?_
            | ((first | (apply sk_r; rfl; rfl) | (apply sk_w; rfl; rfl) | (apply sk_i; rfl) | (apply sk_g; rfl; rfl) | (apply sk_dr; rfl; rfl; rfl) | (apply sk_dg; rfl; rfl; rfl; rfl; rfl) | apply drd_i); (simp only [go_sem, Nat.reduceLT, Nat.reduceLeDiff, Nat.reduceEqDiff, Nat.reduceAdd, Nat.reduceSub, Nat.reduceMul, reduceIte, reduceCtorEq, h0, h6, h13, h14, h15, hd, hY, e1, e2, e3, e5, f1, f2, ew, and_self] <;> rfl); (first | refine sk_id ?_ | refine cs_t ?_ | refine cs_f ?_ | refine gs_t rfl ?_ | refine gs_f rfl ?_ | ((repeat (first | exact trivial | ((first | (apply redos_r; rfl; rfl) | (apply redos_g; rfl; rfl; rfl; rfl)); (simp only [go_sem, Nat.reduceLT, Nat.reduceLeDiff, Nat.reduceEqDiff, Nat.reduceAdd, Nat.reduceSub, Nat.reduceMul, reduceIte, reduceCtorEq, h0, h6, h13, h14, h15, hd, hY, e1, e2, e3, e5, f1, f2, ew, and_self] <;> rfl)) | (apply redos_s; rfl; rfl; rfl; (simp only [go_sem, Nat.reduceLT, Nat.reduceLeDiff, Nat.reduceEqDiff, Nat.reduceAdd, Nat.reduceSub, Nat.reduceMul, reduceIte, reduceCtorEq, h0, h6, h13, h14, h15, hd, hY, e1, e2, e3, e5, f1, f2, ew, and_self] <;> rfl)))); refine sk_id ?_)))
            | (apply sk_w; rfl; rfl; (simp only [go_sem, Nat.reduceLT, Nat.reduceLeDiff, Nat.reduceEqDiff, Nat.reduceAdd, Nat.reduceSub, Nat.reduceMul, reduceIte, reduceCtorEq, h0, h6, h13, h14, h15, hd, hY, e1, e2, e3, e5, f1, f2, ew, and_self] <;> rfl); refine sk_id ?_)
            | ((first | (apply sk_c; rfl; rfl) | (apply sk_dnc (i := 9) (fl := []); rfl; rfl; decide +kernel; rfl)); (simp only [go_sem, Nat.reduceLT, Nat.reduceLeDiff, Nat.reduceEqDiff, Nat.reduceAdd, Nat.reduceSub, Nat.reduceMul, reduceIte, reduceCtorEq, h0, h6, h13, h14, h15, hd, hY, e1, e2, e3, e5, f1, f2, ew, and_self] <;> rfl); (first
                | (refine (f41_tr (c : Nat) s1.pl hO (by omega)).mono ?_; rintro _ τ ⟨rfl, ob, t1, t2⟩)); (first | refine sk_id ?_ | (refine ⟨?_, ?_⟩; (repeat (first | exact trivial | ((first | (apply redos_r; rfl; rfl) | (apply redos_g; rfl; rfl; rfl; rfl)); (simp only [go_sem, Nat.reduceLT, Nat.reduceLeDiff, Nat.reduceEqDiff, Nat.reduceAdd, Nat.reduceSub, Nat.reduceMul, reduceIte, reduceCtorEq, h0, h6, h13, h14, h15, hd, hY, e1, e2, e3, e5, f1, f2, ew, and_self] <;> rfl)) | (apply redos_s; rfl; rfl; rfl; (simp only [go_sem, Nat.reduceLT, Nat.reduceLeDiff, Nat.reduceEqDiff, Nat.reduceAdd, Nat.reduceSub, Nat.reduceMul, reduceIte, reduceCtorEq, h0, h6, h13, h14, h15, hd, hY, e1, e2, e3, e5, f1, f2, ew, and_self] <;> rfl)))); refine sk_id ?_))))
          clear hd
          have hd3 := t1.d
          unfold cellsOf at hd3
          have e9 : IntKind.wrap .i64 ((s1.pl : Int) + 1) = ((i + 1 : Nat) : Int) := by rw [hpl]; exact e4
          have z := own_st t1 (i + 1) s1.bg s1.lf s1.vl s1.lo s1.hi
          repeat (first
            | refine sk_seq ?_
            | refine sk_region ?_
            | refine sk_ops_nil ?_
            | refine sk_draw_nil ?_
            | refine sk_block ?_
            | refine sk_blk ?_
            | refine sk_skip ?_
            | refine sk_exit rfl ?_
            | refine sk_draw (id := 11) [0, 1, 2, 3, 4, 5, 6, 7, 8, 9] mixed (by kernel_rfl) ?_
            | ((first | (apply sk_r; rfl; rfl) | (apply sk_w; rfl; rfl) | (apply sk_i; rfl) | (apply sk_g; rfl; rfl) | (apply sk_dr; rfl; rfl; rfl) | (apply sk_dg; rfl; rfl; rfl; rfl; rfl) | apply drd_i); (simp only [go_sem, Nat.reduceLT, Nat.reduceLeDiff, Nat.reduceEqDiff, Nat.reduceAdd, Nat.reduceSub, Nat.reduceMul, reduceIte, reduceCtorEq, h0, h6, h13, h14, h15, hd3, e4, e9] <;> rfl); (first | refine sk_id ?_ | refine cs_t ?_ | refine cs_f ?_ | refine gs_t rfl ?_ | refine gs_f rfl ?_ | ((repeat (first | exact trivial | ((first | (apply redos_r; rfl; rfl) | (apply redos_g; rfl; rfl; rfl; rfl)); (simp only [go_sem, Nat.reduceLT, Nat.reduceLeDiff, Nat.reduceEqDiff, Nat.reduceAdd, Nat.reduceSub, Nat.reduceMul, reduceIte, reduceCtorEq, h0, h6, h13, h14, h15, hd3, e4, e9] <;> rfl)) | (apply redos_s; rfl; rfl; rfl; (simp only [go_sem, Nat.reduceLT, Nat.reduceLeDiff, Nat.reduceEqDiff, Nat.reduceAdd, Nat.reduceSub, Nat.reduceMul, reduceIte, reduceCtorEq, h0, h6, h13, h14, h15, hd3, e4, e9] <;> rfl)))); refine sk_id ?_)))
            | (apply sk_w; rfl; rfl; (simp only [go_sem, Nat.reduceLT, Nat.reduceLeDiff, Nat.reduceEqDiff, Nat.reduceAdd, Nat.reduceSub, Nat.reduceMul, reduceIte, reduceCtorEq, h0, h6, h13, h14, h15, hd3, e4, e9] <;> rfl); refine sk_id ?_))
          exact sk_stop ⟨data.length - (i + 1), by omega, i + 1, _, rfl, by omega, z.1, (hfr.trans t2).trans z.2, ((t2.trans z.2).2 _ _ hT oT).1, ((t2.trans z.2).2 _ _ hY oY).1, ((t2.trans z.2).2 _ _ hT oT).2, ((t2.trans z.2).2 _ _ hY oY).2, fed_put hF hc (c : Nat) (fun _ => rfl) ob, (by first | (simp only [go_sem, Nat.reduceLT, Nat.reduceLeDiff, Nat.reduceEqDiff, Nat.reduceAdd, Nat.reduceSub, Nat.reduceMul, reduceIte, reduceCtorEq, h0] <;> rfl) | fail), (by first | (simp only [go_sem, Nat.reduceLT, Nat.reduceLeDiff, Nat.reduceEqDiff, Nat.reduceAdd, Nat.reduceSub, Nat.reduceMul, reduceIte, reduceCtorEq, h6] <;> rfl) | fail), (by first | (simp only [go_sem, Nat.reduceLT, Nat.reduceLeDiff, Nat.reduceEqDiff, Nat.reduceAdd, Nat.reduceSub, Nat.reduceMul, reduceIte, reduceCtorEq, h13] <;> rfl) | fail), (by first | (simp only [go_sem, Nat.reduceLT, Nat.reduceLeDiff, Nat.reduceEqDiff, Nat.reduceAdd, Nat.reduceSub, Nat.reduceMul, reduceIte, reduceCtorEq, h14] <;> rfl) | fail), (by first | (simp only [go_sem, Nat.reduceLT, Nat.reduceLeDiff, Nat.reduceEqDiff, Nat.reduceAdd, Nat.reduceSub, Nat.reduceMul, reduceIte, reduceCtorEq] <;> rfl) | fail)⟩
        · have f1 : decide ((c : Int) ≥ 128) = false := decide_eq_false (by omega)
          repeat (first
            | refine sk_seq ?_
            | refine sk_region ?_
            | refine sk_ops_nil ?_
            | refine sk_draw_nil ?_
            | refine sk_block ?_
            | refine sk_blk ?_
            | refine sk_skip ?_
            | refine sk_exit rfl ?_
            | refine sk_draw (id := 11) [0, 1, 2, 3, 4, 5, 6, 7, 8, 9] mixed (by kernel_rfl) ?_
            | ((first | (apply sk_r; rfl; rfl) | (apply sk_w; rfl; rfl) | (apply sk_i; rfl) | (apply sk_g; rfl; rfl) | (apply sk_dr; rfl; rfl; rfl) | (apply sk_dg; rfl; rfl; rfl; rfl; rfl) | apply drd_i); (simp only [go_sem, Nat.reduceLT, Nat.reduceLeDiff, Nat.reduceEqDiff, Nat.reduceAdd, Nat.reduceSub, Nat.reduceMul, reduceIte, reduceCtorEq, h0, h6, h13, h14, h15, hd, hY, e1, e2, e3, e5, f1, ew, and_self] <;> rfl); (first | refine sk_id ?_ | refine cs_t ?_ | refine cs_f ?_ | refine gs_t rfl ?_ | refine gs_f rfl ?_ | ((repeat (first | exact trivial | ((first | (apply redos_r; rfl; rfl) | (apply redos_g; rfl; rfl; rfl; rfl)); (simp only [go_sem, Nat.reduceLT, Nat.reduceLeDiff, Nat.reduceEqDiff, Nat.reduceAdd, Nat.reduceSub, Nat.reduceMul, reduceIte, reduceCtorEq, h0, h6, h13, h14, h15, hd, hY, e1, e2, e3, e5, f1, ew, and_self] <;> rfl)) | (apply redos_s; rfl; rfl; rfl; (simp only [go_sem, Nat.reduceLT, Nat.reduceLeDiff, Nat.reduceEqDiff, Nat.reduceAdd, Nat.reduceSub, Nat.reduceMul, reduceIte, reduceCtorEq, h0, h6, h13, h14, h15, hd, hY, e1, e2, e3, e5, f1, ew, and_self] <;> rfl)))); refine sk_id ?_)))
            | (apply sk_w; rfl; rfl; (simp only [go_sem, Nat.reduceLT, Nat.reduceLeDiff, Nat.reduceEqDiff, Nat.reduceAdd, Nat.reduceSub, Nat.reduceMul, reduceIte, reduceCtorEq, h0, h6, h13, h14, h15, hd, hY, e1, e2, e3, e5, f1, ew, and_self] <;> rfl); refine sk_id ?_)
            | ((first | (apply sk_c; rfl; rfl) | (apply sk_dnc (i := 9) (fl := []); rfl; rfl; decide +kernel; rfl)); (simp only [go_sem, Nat.reduceLT, Nat.reduceLeDiff, Nat.reduceEqDiff, Nat.reduceAdd, Nat.reduceSub, Nat.reduceMul, reduceIte, reduceCtorEq, h0, h6, h13, h14, h15, hd, hY, e1, e2, e3, e5, f1, ew, and_self] <;> rfl); (first
                | (refine (f41_tr (c : Nat) s1.pl hO (by omega)).mono ?_; rintro _ τ ⟨rfl, ob, t1, t2⟩)); (first | refine sk_id ?_ | (refine ⟨?_, ?_⟩; (repeat (first | exact trivial | ((first | (apply redos_r; rfl; rfl) | (apply redos_g; rfl; rfl; rfl; rfl)); (simp only [go_sem, Nat.reduceLT, Nat.reduceLeDiff, Nat.reduceEqDiff, Nat.reduceAdd, Nat.reduceSub, Nat.reduceMul, reduceIte, reduceCtorEq, h0, h6, h13, h14, h15, hd, hY, e1, e2, e3, e5, f1, ew, and_self] <;> rfl)) | (apply redos_s; rfl; rfl; rfl; (simp only [go_sem, Nat.reduceLT, Nat.reduceLeDiff, Nat.reduceEqDiff, Nat.reduceAdd, Nat.reduceSub, Nat.reduceMul, reduceIte, reduceCtorEq, h0, h6, h13, h14, h15, hd, hY, e1, e2, e3, e5, f1, ew, and_self] <;> rfl)))); refine sk_id ?_))))
          clear hd
          have hd3 := t1.d
          unfold cellsOf at hd3
          have e9 : IntKind.wrap .i64 ((s1.pl : Int) + 1) = ((i + 1 : Nat) : Int) := by rw [hpl]; exact e4
          have z := own_st t1 (i + 1) s1.bg s1.lf s1.vl s1.lo s1.hi
          repeat (first
            | refine sk_seq ?_
            | refine sk_region ?_
            | refine sk_ops_nil ?_
            | refine sk_draw_nil ?_
            | refine sk_block ?_
            | refine sk_blk ?_
            | refine sk_skip ?_
            | refine sk_exit rfl ?_
            | refine sk_draw (id := 11) [0, 1, 2, 3, 4, 5, 6, 7, 8, 9] mixed (by kernel_rfl) ?_
            | ((first | (apply sk_r; rfl; rfl) | (apply sk_w; rfl; rfl) | (apply sk_i; rfl) | (apply sk_g; rfl; rfl) | (apply sk_dr; rfl; rfl; rfl) | (apply sk_dg; rfl; rfl; rfl; rfl; rfl) | apply drd_i); (simp only [go_sem, Nat.reduceLT, Nat.reduceLeDiff, Nat.reduceEqDiff, Nat.reduceAdd, Nat.reduceSub, Nat.reduceMul, reduceIte, reduceCtorEq, h0, h6, h13, h14, h15, hd3, e4, e9] <;> rfl); (first | refine sk_id ?_ | refine cs_t ?_ | refine cs_f ?_ | refine gs_t rfl ?_ | refine gs_f rfl ?_ | ((repeat (first | exact trivial | ((first | (apply redos_r; rfl; rfl) | (apply redos_g; rfl; rfl; rfl; rfl)); (simp only [go_sem, Nat.reduceLT, Nat.reduceLeDiff, Nat.reduceEqDiff, Nat.reduceAdd, Nat.reduceSub, Nat.reduceMul, reduceIte, reduceCtorEq, h0, h6, h13, h14, h15, hd3, e4, e9] <;> rfl)) | (apply redos_s; rfl; rfl; rfl; (simp only [go_sem, Nat.reduceLT, Nat.reduceLeDiff, Nat.reduceEqDiff, Nat.reduceAdd, Nat.reduceSub, Nat.reduceMul, reduceIte, reduceCtorEq, h0, h6, h13, h14, h15, hd3, e4, e9] <;> rfl)))); refine sk_id ?_)))
            | (apply sk_w; rfl; rfl; (simp only [go_sem, Nat.reduceLT, Nat.reduceLeDiff, Nat.reduceEqDiff, Nat.reduceAdd, Nat.reduceSub, Nat.reduceMul, reduceIte, reduceCtorEq, h0, h6, h13, h14, h15, hd3, e4, e9] <;> rfl); refine sk_id ?_))
          exact sk_stop ⟨data.length - (i + 1), by omega, i + 1, _, rfl, by omega, z.1, (hfr.trans t2).trans z.2, ((t2.trans z.2).2 _ _ hT oT).1, ((t2.trans z.2).2 _ _ hY oY).1, ((t2.trans z.2).2 _ _ hT oT).2, ((t2.trans z.2).2 _ _ hY oY).2, fed_put hF hc (c : Nat) (fun _ => rfl) ob, (by first | (simp only [go_sem, Nat.reduceLT, Nat.reduceLeDiff, Nat.reduceEqDiff, Nat.reduceAdd, Nat.reduceSub, Nat.reduceMul, reduceIte, reduceCtorEq, h0] <;> rfl) | fail), (by first | (simp only [go_sem, Nat.reduceLT, Nat.reduceLeDiff, Nat.reduceEqDiff, Nat.reduceAdd, Nat.reduceSub, Nat.reduceMul, reduceIte, reduceCtorEq, h6] <;> rfl) | fail), (by first | (simp only [go_sem, Nat.reduceLT, Nat.reduceLeDiff, Nat.reduceEqDiff, Nat.reduceAdd, Nat.reduceSub, Nat.reduceMul, reduceIte, reduceCtorEq, h13] <;> rfl) | fail), (by first | (simp only [go_sem, Nat.reduceLT, Nat.reduceLeDiff, Nat.reduceEqDiff, Nat.reduceAdd, Nat.reduceSub, Nat.reduceMul, reduceIte, reduceCtorEq, h14] <;> rfl) | fail), (by first | (simp only [go_sem, Nat.reduceLT, Nat.reduceLeDiff, Nat.reduceEqDiff, Nat.reduceAdd, Nat.reduceSub, Nat.reduceMul, reduceIte, reduceCtorEq] <;> rfl) | fail)⟩
  · have e1 : decide ((i : Int) < (data.length : Int)) = false := decide_eq_false (by omega)
    have ei : i = data.length := by omega
    repeat (first
      | refine sk_seq ?_
      | refine sk_region ?_
      | refine sk_ops_nil ?_
      | refine sk_draw_nil ?_
      | refine sk_block ?_
      | refine sk_blk ?_
      | refine sk_skip ?_
      | refine sk_exit rfl ?_
      | refine sk_draw (id := 11) [0, 1, 2, 3, 4, 5, 6, 7, 8, 9] mixed (by kernel_rfl) ?_
      | ((first | (apply sk_r; rfl; rfl) | (apply sk_w; rfl; rfl) | (apply sk_i; rfl) | (apply sk_g; rfl; rfl) | (apply sk_dr; rfl; rfl; rfl) | (apply sk_dg; rfl; rfl; rfl; rfl; rfl) | apply drd_i); (simp only [go_sem, Nat.reduceLT, Nat.reduceLeDiff, Nat.reduceEqDiff, Nat.reduceAdd, Nat.reduceSub, Nat.reduceMul, reduceIte, reduceCtorEq, h0, h13, h14, h15, e1] <;> rfl); (first | refine sk_id ?_ | refine cs_t ?_ | refine cs_f ?_ | refine gs_t rfl ?_ | refine gs_f rfl ?_ | ((repeat (first | exact trivial | ((first | (apply redos_r; rfl; rfl) | (apply redos_g; rfl; rfl; rfl; rfl)); (simp only [go_sem, Nat.reduceLT, Nat.reduceLeDiff, Nat.reduceEqDiff, Nat.reduceAdd, Nat.reduceSub, Nat.reduceMul, reduceIte, reduceCtorEq, h0, h13, h14, h15, e1] <;> rfl)) | (apply redos_s; rfl; rfl; rfl; (simp only [go_sem, Nat.reduceLT, Nat.reduceLeDiff, Nat.reduceEqDiff, Nat.reduceAdd, Nat.reduceSub, Nat.reduceMul, reduceIte, reduceCtorEq, h0, h13, h14, h15, e1] <;> rfl)))); refine sk_id ?_)))
      | (apply sk_w; rfl; rfl; (simp only [go_sem, Nat.reduceLT, Nat.reduceLeDiff, Nat.reduceEqDiff, Nat.reduceAdd, Nat.reduceSub, Nat.reduceMul, reduceIte, reduceCtorEq, h0, h13, h14, h15, e1] <;> rfl); refine sk_id ?_)
      | ((first | (apply sk_c; rfl; rfl) | (apply sk_dnc (i := 9) (fl := []); rfl; rfl; decide +kernel; rfl)); (simp only [go_sem, Nat.reduceLT, Nat.reduceLeDiff, Nat.reduceEqDiff, Nat.reduceAdd, Nat.reduceSub, Nat.reduceMul, reduceIte, reduceCtorEq, h0, h13, h14, h15, e1] <;> rfl); (first
          | (refine (f42_tr hO).mono ?_; rintro _ τ ⟨rfl, hτ⟩; rw [hτ])); (first | refine sk_id ?_ | (refine ⟨?_, ?_⟩; (repeat (first | exact trivial | ((first | (apply redos_r; rfl; rfl) | (apply redos_g; rfl; rfl; rfl; rfl)); (simp only [go_sem, Nat.reduceLT, Nat.reduceLeDiff, Nat.reduceEqDiff, Nat.reduceAdd, Nat.reduceSub, Nat.reduceMul, reduceIte, reduceCtorEq, h0, h13, h14, h15, e1] <;> rfl)) | (apply redos_s; rfl; rfl; rfl; (simp only [go_sem, Nat.reduceLT, Nat.reduceLeDiff, Nat.reduceEqDiff, Nat.reduceAdd, Nat.reduceSub, Nat.reduceMul, reduceIte, reduceCtorEq, h0, h13, h14, h15, e1] <;> rfl)))); refine sk_id ?_))))
    exact sk_ret ⟨_, (by first | (simp only [aRet, Tryd.results27, aResults, aResult, go_sem, Nat.reduceLT, Nat.reduceLeDiff, Nat.reduceEqDiff, Nat.reduceAdd, Nat.reduceSub, Nat.reduceMul, reduceIte, reduceCtorEq] <;> rfl) | fail), s1, τ0, rfl, hO, hfr, rfl, by rw [← ei]; exact hF⟩
end Go.Proofs.YtophnlmdcidolaaDoor
