import Derived.Test.YtophnlmdcidolaaDoorC24
import Derived.Below
set_option linter.all false
namespace Go.Am
/-! Helpers: places in a list of bytes. -/
theorem sk_end {P : Program} {n : Nat} {Q : Exit → PT AV → AHeap → Prop} {fr : PT AV} {σ : AHeap} (h : Q .normal fr σ) : SK P n Q [] .normal fr σ := by
  unfold SK; exact h
theorem wrap_i64 {n : Int} (h0 : -9223372036854775808 ≤ n) (h : n ≤ 9223372036854775807) : IntKind.wrap .i64 n = n := by
  unfold IntKind.wrap
  simp only [IntKind.bits, IntKind.signed]
  have : ((2:Int)^64) = 18446744073709551616 := by decide
  have h63 : ((2:Int)^63) = 9223372036854775808 := by decide
  simp only [this, h63, Bool.true_and, decide_eq_true_eq]
  split <;> omega

def run (p : Nat → Bool) (d : List Nat) (k : Nat) : Nat := k + ((d.drop k).takeWhile p).length
theorem drop_some {d : List Nat} {k c : Nat} (h : d[k]? = some c) : d.drop k = c :: d.drop (k + 1) := by
  obtain ⟨h1, h2⟩ := List.getElem?_eq_some_iff.1 h
  rw [List.drop_eq_getElem_cons h1, h2]
theorem run_step {p : Nat → Bool} {d : List Nat} {k c : Nat} (h : d[k]? = some c) (hp : p c = true) : run p d k = run p d (k + 1) := by
  unfold run
  rw [drop_some h, List.takeWhile_cons_of_pos hp, List.length_cons]
  omega
theorem run_stop {p : Nat → Bool} {d : List Nat} {k c : Nat} (h : d[k]? = some c) (hp : p c = false) : run p d k = k := by
  unfold run
  rw [drop_some h, List.takeWhile_cons_of_neg (by simp [hp])]
  rfl
theorem run_end {p : Nat → Bool} {d : List Nat} {k : Nat} (h : d.length ≤ k) : run p d k = k := by
  unfold run
  rw [List.drop_eq_nil_of_le h]
  rfl
theorem run_ge (p : Nat → Bool) (d : List Nat) (k : Nat) : k ≤ run p d k := by unfold run; omega
theorem run_le {p : Nat → Bool} {d : List Nat} {k : Nat} (h : k ≤ d.length) : run p d k ≤ d.length := by
  have h1 : ((d.drop k).takeWhile p).length ≤ (d.drop k).length := (List.takeWhile_prefix p).length_le
  rw [List.length_drop] at h1
  unfold run; omega
theorem at_some {d : List Nat} {k : Nat} (h : k < d.length) : ∃ c, d[k]? = some c := ⟨d[k], List.getElem?_eq_getElem h⟩
theorem at_mem {d : List Nat} {k c : Nat} (h : d[k]? = some c) : c ∈ d := List.mem_of_getElem? h
def isIn (S : List Nat) (c : Nat) : Bool := decide (idx S c ≥ 0)
theorem isIn_iff (S : List Nat) (c : Nat) : isIn S c = true ↔ c ∈ S := by
  unfold isIn; rw [decide_eq_true_eq]; exact idx_mem S c
end Go.Am
namespace Go.Am
variable {P : Program}
/-- every block has a number below the next one -/
def WF (σ : AHeap) : Prop := ∀ b, σ.next ≤ b → σ.m.get b = none
theorem wf_push {σ : AHeap} (h : WF σ) (x : ABlock) : WF (σ.push x) := by
  intro b hb
  rw [next_push] at hb
  rw [get_push, if_neg (by omega)]
  exact h b (by omega)
theorem wf_lt {σ : AHeap} (h : WF σ) {b : Nat} {x : ABlock} (hb : σ.m.get b = some x) : b < σ.next := by
  by_cases e : b < σ.next
  · exact e
  · rw [h b (by omega)] at hb; simp at hb
set_option maxRecDepth 100000 in
theorem dec_ascii {c : Nat} (l : List Nat) (h : c < 128) : dec (c :: l) = (c, 1) := by
  unfold dec
  rw [show nthD (c :: l) 0 = c from rfl, if_pos h]
theorem contL_high : ∀ {l : List Nat} {k x : Nat}, contL l k = true → l[k]? = some x → 128 ≤ x
  | [], k, x, h, _ => by simp [contL] at h
  | y :: l, 0, x, h, e => by simp [contL] at h; simp at e; omega
  | y :: l, k + 1, x, h, e => by simp only [contL] at h; simp at e; exact contL_high h e
set_option maxRecDepth 100000 in
theorem dec_high {c : Nat} (l : List Nat) (h : 128 ≤ c) : 128 ≤ (dec (c :: l)).1 ∧ 1 ≤ (dec (c :: l)).2 ∧ ∀ i x, i < (dec (c :: l)).2 → (c :: l)[i]? = some x → 128 ≤ x := by
  have h0 : ∀ x, (c :: l)[0]? = some x → 128 ≤ x := by intro x hx; simp at hx; omega
  have e : Utf8.runeError = 65533 := rfl
  unfold dec
  rw [show nthD (c :: l) 0 = c from rfl, if_neg (by omega)]
  have one : 128 ≤ ((Utf8.runeError, 1) : Nat × Nat).1 ∧ 1 ≤ ((Utf8.runeError, 1) : Nat × Nat).2 ∧ ∀ i x, i < ((Utf8.runeError, 1) : Nat × Nat).2 → (c :: l)[i]? = some x → 128 ≤ x := by
    refine ⟨by decide, by decide, fun i x hi hx => ?_⟩
    obtain rfl : i = 0 := by simp at hi; exact hi
    exact h0 x hx
  split
  · rename_i h1
    simp only [Bool.and_eq_true] at h1
    split
    · refine ⟨by assumption, by show 1 ≤ 2; omega, fun i x hi hx => ?_⟩
      match i, hi, hx with
      | 0, _, hx => exact h0 x hx
      | 1, _, hx => exact contL_high h1.2 hx
      | n + 2, hi, _ => exact absurd (show n + 2 < 2 from hi) (by omega)
    · exact one
  · split
    · rename_i h1
      simp only [Bool.and_eq_true] at h1
      split
      · rename_i h2
        simp only [Bool.and_eq_true, decide_eq_true_eq] at h2
        refine ⟨by have := h2.1; omega, by show 1 ≤ 3; omega, fun i x hi hx => ?_⟩
        match i, hi, hx with
        | 0, _, hx => exact h0 x hx
        | 1, _, hx => exact contL_high h1.1.2 hx
        | 2, _, hx => exact contL_high h1.2 hx
        | n + 3, hi, _ => exact absurd (show n + 3 < 3 from hi) (by omega)
      · exact one
    · split
      · rename_i h1
        simp only [Bool.and_eq_true] at h1
        split
        · rename_i h2
          simp only [Bool.and_eq_true, decide_eq_true_eq] at h2
          refine ⟨by have := h2.1; omega, by show 1 ≤ 4; omega, fun i x hi hx => ?_⟩
          match i, hi, hx with
          | 0, _, hx => exact h0 x hx
          | 1, _, hx => exact contL_high h1.1.1.2 hx
          | 2, _, hx => exact contL_high h1.1.2 hx
          | 3, _, hx => exact contL_high h1.2 hx
          | n + 4, hi, _ => exact absurd (show n + 4 < 4 from hi) (by omega)
        · exact one
      · exact one
end Go.Am
namespace Go.Am
variable {P : Program}
theorem Tr.wf {f : FuncId} {args : List AV} {σ : AHeap} {Q : AV → AHeap → Prop} (h : WF σ → Tr P f args σ Q) : Tr P f args σ Q :=
  fun θ w cargs hS hr => h hS.rel.fresh θ w cargs hS hr
/-- the first place of a byte of S, or -1 -/
def firstIn (S d : List Nat) : Int := if run (fun c => !isIn S c) d 0 < d.length then (run (fun c => !isIn S c) d 0 : Nat) else -1
end Go.Am
namespace Go.Am
theorem run_skip {p : Nat → Bool} {d : List Nat} : ∀ w j, (∀ i x, i < w → d[j + i]? = some x → p x = true) →
    (j + w ≤ d.length → run p d j = run p d (j + w)) ∧ (d.length ≤ j + w → d.length ≤ run p d j)
  | 0, j, _ => ⟨fun _ => rfl, fun h => Nat.le_trans h (run_ge p d j)⟩
  | w + 1, j, h => by
    by_cases hj : j < d.length
    · obtain ⟨c, hc⟩ := at_some hj
      have h1 := run_step hc (h 0 c (by omega) (by simpa using hc))
      have ih := run_skip w (j + 1) (fun i x hi hx => h (i + 1) x (by omega) (by rw [show j + (i + 1) = j + 1 + i by omega]; exact hx))
      rw [h1, show j + (w + 1) = j + 1 + w by omega]
      exact ih
    · exact ⟨fun h => absurd h (by omega), fun _ => Nat.le_trans (by omega) (run_ge p d j)⟩
theorem isIn_not {S : List Nat} {c : Nat} (h : c ∉ S) : (!isIn S c) = true := by
  cases e : isIn S c
  · rfl
  · exact absurd ((isIn_iff S c).1 e) h
theorem isIn_yes {S : List Nat} {c : Nat} (h : c ∈ S) : (!isIn S c) = false := by rw [(isIn_iff S c).2 h]; rfl
end Go.Am
namespace Go.Am
variable {P : Program}
theorem run_drop (p : Nat → Bool) (d : List Nat) (k : Nat) : run p d k = k + run p (d.drop k) 0 := by
  simp [run]
theorem firstIn_drop {S d : List Nat} {k : Nat} (h : k ≤ d.length) : firstIn S (d.drop k) = if run (fun c => !isIn S c) d k < d.length then ((run (fun c => !isIn S c) d k - k : Nat) : Int) else -1 := by
  unfold firstIn
  rw [run_drop _ d k, List.length_drop]
  split
  · rename_i h1
    rw [if_pos (by omega)]
    congr 1; omega
  · rename_i h1
    rw [if_neg (by omega)]

def low (c : Nat) : Nat := if 65 ≤ c ∧ c ≤ 90 then c + 32 else c
theorem low_lt {c : Nat} (h : c < 256) : low c < 256 := by unfold low; split <;> omega
theorem or_low : ∀ k : Fin 26, IntKind.wrap .u8 ((BitVec.ofInt 8 ((k.val + 65 : Nat) : Int) ||| BitVec.ofInt 8 32).toNat : Int) = ((k.val + 97 : Nat) : Int) := by decide
theorem or_low' {c : Nat} (h1 : 65 ≤ c) (h2 : c ≤ 90) : IntKind.wrap .u8 ((BitVec.ofInt IntKind.u8.bits ((c : Nat) : Int) ||| BitVec.ofInt IntKind.u8.bits 32).toNat : Int) = ((low c : Nat) : Int) := by
  have := or_low ⟨c - 65, by omega⟩
  simp only [show c - 65 + 65 = c by omega, show c - 65 + 97 = c + 32 by omega] at this
  rw [low, if_pos ⟨h1, h2⟩]
  exact this
theorem add_low {c : Nat} (h1 : 65 ≤ c) (h2 : c ≤ 90) : IntKind.wrap .u8 ((c : Int) + 32) = ((low c : Nat) : Int) := by
  rw [low, if_pos ⟨h1, h2⟩]
  unfold IntKind.wrap
  simp only [IntKind.bits, IntKind.signed]
  have : ((2:Int)^8) = 256 := by decide
  simp only [this, Bool.false_and]
  split
  · rename_i h; simp at h
  · omega

theorem bytesAV_get : ∀ (l : List Nat) (i : Nat), (bytesAV l)[i]? = match l[i]? with
    | some c => some (.int .u8 c)
    | none => none
  | [], i => by simp [bytesAV]
  | c :: l, 0 => by simp [bytesAV]
  | c :: l, i + 1 => by simp only [bytesAV, List.getElem?_cons_succ]; exact bytesAV_get l i
theorem bytesAV_append : ∀ (l r : List Nat), bytesAV (l ++ r) = bytesAV l ++ bytesAV r
  | [], r => rfl
  | c :: l, r => by simp [bytesAV, bytesAV_append l r]
theorem lay_nil : ∀ (xs : List AV), lay xs 0 [] = some xs
  | [] => rfl
  | _ :: _ => rfl
theorem lay_byte : ∀ (l : List Nat) (i : Nat) (y : Nat), i < l.length → lay (bytesAV l) i [.int .u8 y] = some (bytesAV (l.set i y))
  | [], i, y, h => by simp at h
  | c :: l, 0, y, h => by simp [bytesAV, lay, lay_nil]
  | c :: l, i + 1, y, h => by simp at h; simp [bytesAV, lay, lay_byte l i y h]
theorem bytesAt_all : ∀ (l : List Nat), (∀ c ∈ l, c < 256) → bytesAt l.length (bytesAV l) = some l
  | [], _ => rfl
  | c :: l, h => by
    have h1 := h c (by simp)
    simp only [List.length_cons, bytesAV, bytesAt, bytesAt_all l fun x hx => h x (by simp [hx])]
    simp only [Int.toNat_natCast]
    congr 2
    exact Nat.mod_eq_of_lt h1

def mid (l : List Nat) (i : Nat) : List Nat := (l.take i).map low ++ l.drop i
theorem mid_length (l : List Nat) (i : Nat) : (mid l i).length = l.length := by simp [mid]; omega
theorem mid_zero (l : List Nat) : mid l 0 = l := by simp [mid]
theorem mid_end {l : List Nat} {i : Nat} (h : l.length ≤ i) : mid l i = l.map low := by simp [mid, List.take_of_length_le h, List.drop_eq_nil_of_le h]
theorem mid_get {l : List Nat} {i c : Nat} (h : l[i]? = some c) : (mid l i)[i]? = some c := by
  have hi : i < l.length := (List.getElem?_eq_some_iff.1 h).1
  unfold mid
  rw [List.getElem?_append_right (by simp; omega)]
  simp [Nat.min_eq_left (Nat.le_of_lt hi), h]
theorem mid_set {l : List Nat} {i c : Nat} (h : l[i]? = some c) : (mid l i).set i (low c) = mid l (i + 1) := by
  have hi : i < l.length := (List.getElem?_eq_some_iff.1 h).1
  unfold mid
  rw [drop_some h, List.take_succ, h, List.map_append, List.append_assoc, List.set_append_right _ _ (by simp; omega)]
  simp [Nat.min_eq_left (Nat.le_of_lt hi)]
theorem mid_same {l : List Nat} {i c : Nat} (h : l[i]? = some c) (hc : low c = c) : mid l i = mid l (i + 1) := by
  unfold mid
  rw [drop_some h, List.take_succ, h]
  simp [hc]
theorem low_up {c : Nat} (h : ¬(65 ≤ c ∧ c ≤ 90)) : low c = c := by rw [low, if_neg h]

/-- a type of slices of bytes -/
def ByteTy (P : Program) (st : TypeId) : Prop := ∃ e i z, P.underlying st = some (.slice e) ∧ P.info? e = some i ∧ i.size = 1 ∧ i.bytes = 1 ∧ zeroOf P e = some z ∧ (aCells z).length = 1
theorem append_first {st : TypeId} {σ : AHeap} {c : Nat} {x : AV} {ro : Bool} {fz : Nat} {ps : List Nat} (h : ByteTy P st) (hc : σ.m.get c = some (.cells [x] ro fz ps)) :
    aAppend P σ [st, st] [.nilslice, .slice c 0 1 1 true 1] = some (.slice σ.next 0 1 1 false 1, σ.push (.cells [x] false 0 [])) := by
  obtain ⟨e, i, z, h1, h2, h3, h4, h5, h6⟩ := h
  unfold aAppend
  simp only [h1, h2, h5, isIntTy, aLenOf, aSrc, h3, h4, h6, Nat.one_mul, hc, sub, List.drop, getN, List.length]
  rfl
theorem append_next {st : TypeId} {σ : AHeap} {c b n : Nat} {x : AV} {xs : List AV} {ro : Bool} {fz : Nat} {ps : List Nat} (h : ByteTy P st) (hc : σ.m.get c = some (.cells [x] ro fz ps))
    (hb : σ.m.get b = some (.cells xs false 0 [])) (hn : xs.length = n) (h0 : 0 < n) (hl : n ≤ 140737488355327) (ho : oneAll [x] = true) :
    aAppend P σ [st, st] [.slice b 0 n n false 1, .slice c 0 1 1 true 1] = some (.slice σ.next 0 (n + 1) (n + 1) false 1, ⟨(σ.m.del b).set σ.next (.cells (xs ++ [x]) false 0 []), σ.next + 1⟩) := by
  obtain ⟨e, i, z, h1, h2, h3, h4, h5, h6⟩ := h
  have hg : getN n xs = some xs := by
    subst hn
    clear hb h0 hl
    induction xs with
    | nil => rfl
    | cons y ys ih => simp [getN, ih]
  have hsrc : aSrc σ.m 1 n (.slice b 0 n n false 1) = some xs := by
    unfold aSrc
    simp only [Nat.mul_one, hb, sub, List.drop]
    match n, h0, hg with
    | m + 1, _, hg => exact hg
  unfold aAppend
  simp only [h1, h2, h5, isIntTy, aLenOf, h3, h4, h6]
  have hsrc1 : aSrc σ.m 1 1 (.slice c 0 1 1 true 1) = some [x] := by
    simp only [aSrc, Nat.one_mul, hc, sub, List.drop, getN]
  simp only [hsrc1, nat_ble, nat_beq, decide_true, hsrc, hb, ho, Nat.mul_one, hn, Nat.zero_le, List.length]
  rw [show decide (n + 1 ≤ n) = false by simp]
  simp only
  rw [if_pos (by refine ⟨by omega, by omega, ?_⟩ <;> simp)]
  simp only [reduceIte, Nat.zero_sub, delAll]

theorem rd_conv_bytes {ρ : Operand → AV} {σ : PT ABlock} {src dst e : TypeId} {o : Operand} {b n c : Nat} {ex ro : Bool} {z fz : Nat} {ps : List Nat} {xs : List AV} {l : List Nat} (hs : P.underlying src = some (.slice e)) (he : P.underlying e = some (.int .u8)) (hd : P.underlying dst = some .string)
    (hx : ρ o = .slice b 0 n c ex z) (hg : σ.get b = some (.cells xs ro fz ps)) (hxs : xs = bytesAV l) (hn : n = l.length) (h8 : ∀ c ∈ l, c < 256) : rd P ρ σ (.convert src dst o) = some (.str l) := by
  rw [rd_convert, hx]
  subst hn hxs
  unfold aConv
  simp only [hs, he, hd, hg, List.drop]
  have e2 := bytesAt_all l h8
  cases l with
  | nil => rfl
  | cons x l => simp only [List.length_cons] at e2 ⊢; simp only [e2]
end Go.Am
namespace Go.Am
theorem take_low {l : List Nat} {i c : Nat} (h : l[i]? = some c) : (l.take (i + 1)).map low = (l.take i).map low ++ [low c] := by
  rw [List.take_succ, h]; simp
theorem get_move (m : PT ABlock) (k n b : Nat) (x : ABlock) : ((m.del k).set n x).get b = if n = b then some x else if k = b then none else m.get b := by
  simp only [PT.get_set, PT.get_del]
end Go.Am
namespace Go.Am
variable {P : Program} {n : Nat} {Q : Exit → PT AV → AHeap → Prop} {k : List Item} {fr : PT AV} {σ : AHeap}
/-- where a part ends -/
def CutQ (P : Program) (n : Nat) (Q : Exit → PT AV → AHeap → Prop) (k : List Item) (J : PT AV → AHeap → Prop) : Exit → PT AV → AHeap → Prop
  | .normal, fr, σ => J fr σ
  | e, fr, σ => SK P n Q k e fr σ
/-- one block for itself, then the rest from whatever it leaves -/
theorem sk_cut {c : Code} {id : Nat} (J : PT AV → AHeap → Prop) (h : SK P n (CutQ P n Q k J) [.code c, .blk id] .normal fr σ) (hk : ∀ fr σ, J fr σ → SK P n Q k .normal fr σ) :
    SK P n Q (.code c :: .blk id :: k) .normal fr σ := by
  unfold SK at h ⊢
  refine acode_mono h fun e fr' σ' hq => ?_
  unfold SK at hq ⊢
  cases e with
  | normal => simp only at hq ⊢; unfold SK at hq; exact hk _ _ hq
  | exit id' =>
    simp only at hq ⊢
    split
    · rename_i e; rw [if_pos e] at hq; unfold SK at hq; exact hk _ _ hq
    · rename_i e; rw [if_neg e] at hq; unfold SK at hq; exact hq
  | _ => simp only at hq ⊢; unfold SK at hq; exact hq
/-- a return out of such a part -/
theorem sk_cut_ret {J : PT AV → AHeap → Prop} {k' : List Item} (h : Q .ret fr σ) : SK P n (CutQ P n Q k J) (.code .ret :: k') .normal fr σ :=
  sk_ret (show SK P n Q k .ret fr σ from sk_ret_pass h)

theorem wantedA_undef {arr : Array Oper} {fr : PT AV} {dst : Option Tmp} {op : Op} {ty : TypeId} {pos : String} {aft : Array Edge} {j : Nat} {b : Bool} {gd : Oper} {d : Tmp} (hj : arr[j]? = some gd) (hd : gd.dst = some d) (hv : fget fr d = .undef) :
    wantedA arr fr ⟨dst, op, ty, pos, aft, some (j, b)⟩ = false := by
  cases b <;> simp [wantedA, hj, hd, hv, isBool, AV.undef]
theorem sk_gskipu {arr : Array Oper} {rest : List Oper} {dst : Option Tmp} {op : Op} {ty : TypeId} {pos : String} {aft : Array Edge} {j : Nat} {b : Bool} {gd : Oper} {d : Tmp} (hj : arr[j]? = some gd) (hd : gd.dst = some d) (hv : fget fr d = .undef)
    (h : SK P n Q (.ops arr rest :: k) .normal (fput n fr dst .undef) σ) : SK P n Q (.ops arr (⟨dst, op, ty, pos, aft, some (j, b)⟩ :: rest) :: k) .normal fr σ :=
  sk_pass (wantedA_undef hj hd hv) h
end Go.Am
namespace Go.Am
attribute [go_sem] List.getD List.size_toArray List.getElem?_toArray List.getElem?_cons_zero List.getElem?_cons_succ List.getElem?_nil Option.getD_some Option.getD_none Nat.zero_add Nat.add_zero Nat.mul_one Nat.one_mul List.length_cons List.length_nil Int.toNat_natCast
/-! Steps in a form that a walk can try one after the other: what is to be evaluated stands by itself. -/
def isRd : Op → Bool
  | .store .. => false
  | .alloc _ => false
  | .box .. => false
  | .buildSlice .. => false
  | .makeSlice .. => false
  | .range .. => false
  | .next _ _ => false
  | .call c => match c.callee with
    | .builtin .append => false
    | .builtin .copy => false
    | .builtin _ => true
    | _ => false
  | _ => true
def isWr : Op → Bool
  | .store .. => true
  | .alloc _ => true
  | .box .. => true
  | .buildSlice .. => true
  | .makeSlice .. => true
  | .range .. => true
  | .next _ b => b
  | .convert .. => true
  | .call c => match c.callee with
    | .builtin .append => true
    | .builtin .copy => true
    | _ => false
  | _ => false
def isCl : Op → Bool
  | .call c => match c.callee with
    | .builtin _ => false
    | _ => true
  | _ => false
/-- what a guard with the value x chooses -/
def gsel (x : AV) (b : Bool) (A B : Prop) : Prop := match isBool x b with | true => A | false => B
theorem gs_t {x : AV} {b : Bool} {A B : Prop} (h : isBool x b = true) (hA : A) : gsel x b A B := by unfold gsel; rw [h]; exact hA
theorem gs_f {x : AV} {b : Bool} {A B : Prop} (h : isBool x b = false) (hB : B) : gsel x b A B := by unfold gsel; rw [h]; exact hB
/-- what a condition chooses -/
def csel (x : AV) (A B : Prop) : Prop := (x = .bool true ∧ A) ∨ (x = .bool false ∧ B)
theorem cs_t {A B : Prop} (h : A) : csel (.bool true) A B := .inl ⟨rfl, h⟩
theorem cs_f {A B : Prop} (h : B) : csel (.bool false) A B := .inr ⟨rfl, h⟩
variable {P : Program} {n : Nat} {Q : Exit → PT AV → AHeap → Prop} {k : List Item} {fr : PT AV} {σ : AHeap}
theorem sk_id {l : List Item} (h : SK P n Q l .normal fr σ) : SK P n Q l .normal fr σ := h
theorem sk_i {c : Operand} {x y : Code} {v : AV} (hok : opdOk P c = true) (hc : aeval fr c = v) (h : csel v (SK P n Q (.code x :: k) .normal fr σ) (SK P n Q (.code y :: k) .normal fr σ)) : SK P n Q (.code (.cond c x y) :: k) .normal fr σ := by
  rcases h with ⟨e, h⟩ | ⟨e, h⟩
  · exact sk_true hok (hc.trans e) h
  · exact sk_false hok (hc.trans e) h
section
variable {arr : Array Oper} {rest : List Oper} {dst : Option Tmp} {op : Op} {ty : TypeId} {pos : String} {aft : Array Edge}
theorem wantedA_guard {j : Nat} {b : Bool} {gd : Oper} {d : Tmp} (hj : arr[j]? = some gd) (hd : gd.dst = some d) : wantedA arr fr ⟨dst, op, ty, pos, aft, some (j, b)⟩ = isBool (fget fr d) b := by
  simp [wantedA, hj, hd]
theorem sk_r {v : AV} (_ : isRd op = true) (hok : opOk P op = true) (hr : rd P (aeval fr) σ.m op = some v) (h : SK P n Q (.ops arr rest :: k) .normal (fput n fr dst v) σ) :
    SK P n Q (.ops arr (⟨dst, op, ty, pos, aft, none⟩ :: rest) :: k) .normal fr σ := sk_rd hok hr h
theorem sk_w {v : AV} {σ' : AHeap} (_ : isWr op = true) (hok : opOk P op = true) (hr : wr P (aeval fr) σ op = some (v, σ')) (h : SK P n Q (.ops arr rest :: k) .normal (fput n fr dst v) σ') :
    SK P n Q (.ops arr (⟨dst, op, ty, pos, aft, none⟩ :: rest) :: k) .normal fr σ := sk_wr hok hr h
theorem sk_c {f : FuncId} {args : List AV} (_ : isCl op = true) (hok : opOk P op = true) (hc : aCallee P (aeval fr) σ.m op = some (f, args)) (h : Tr P f args σ fun v σ' => SK P n Q (.ops arr rest :: k) .normal (fput n fr dst v) σ') :
    SK P n Q (.ops arr (⟨dst, op, ty, pos, aft, none⟩ :: rest) :: k) .normal fr σ := sk_call hok hc h
theorem sk_unguard {g : Option (Nat × Bool)} (hw : wantedA arr fr ⟨dst, op, ty, pos, aft, g⟩ = true) (h : SK P n Q (.ops arr (⟨dst, op, ty, pos, aft, none⟩ :: rest) :: k) .normal fr σ) :
    SK P n Q (.ops arr (⟨dst, op, ty, pos, aft, g⟩ :: rest) :: k) .normal fr σ := by
  have e : wantedA arr fr ⟨dst, op, ty, pos, aft, none⟩ = true := rfl
  simp only [SK, AOps, hw]
  simp only [SK, AOps, e] at h
  exact h
theorem sk_g {j : Nat} {b : Bool} {gd : Oper} {d : Tmp} {x : AV} (hj : arr[j]? = some gd) (hd : gd.dst = some d) (hv : fget fr d = x)
    (h : gsel x b (SK P n Q (.ops arr (⟨dst, op, ty, pos, aft, none⟩ :: rest) :: k) .normal fr σ) (SK P n Q (.ops arr rest :: k) .normal (fput n fr dst .undef) σ)) :
    SK P n Q (.ops arr (⟨dst, op, ty, pos, aft, some (j, b)⟩ :: rest) :: k) .normal fr σ := by
  have e := wantedA_guard (fr := fr) (dst := dst) (op := op) (ty := ty) (pos := pos) (aft := aft) (b := b) hj hd
  rw [hv] at e
  unfold gsel at h
  cases hx : isBool x b <;> rw [hx] at e h
  · exact sk_pass e h
  · exact sk_unguard e h
end
section
variable {arr : Array Oper} {i : Nat} {rest done : List Nat} {dst : Option Tmp} {op : Op} {ty : TypeId} {pos : String} {aft : Array Edge}
theorem sk_dr {v : AV} (ho : arr[i]? = some ⟨dst, op, ty, pos, aft, none⟩) (hq : quiet P op = true) (hok : opOk P op = true) (hr : rd P (aeval fr) σ.m op = some v) (h : SK P n Q (.draw arr rest (i :: done) :: k) .normal (fput n fr dst v) σ) :
    SK P n Q (.draw arr (i :: rest) done :: k) .normal fr σ := sk_drd ho hq hok hr h
/-- in a draw: the operation that is to be done -/
def Drd (P : Program) (n : Nat) (Q : Exit → PT AV → AHeap → Prop) (k : List Item) (arr : Array Oper) (i : Nat) (rest done : List Nat) (dst : Option Tmp) (op : Op) (fr : PT AV) (σ : AHeap) : Prop :=
  ∃ v, rd P (aeval fr) σ.m op = some v ∧ SK P n Q (.draw arr rest (i :: done) :: k) .normal (fput n fr dst v) σ
theorem drd_i {v : AV} (hr : rd P (aeval fr) σ.m op = some v) (h : SK P n Q (.draw arr rest (i :: done) :: k) .normal (fput n fr dst v) σ) : Drd P n Q k arr i rest done dst op fr σ := ⟨v, hr, h⟩
theorem sk_dg {j : Nat} {b : Bool} {gd : Oper} {d : Tmp} {x : AV} (ho : arr[i]? = some ⟨dst, op, ty, pos, aft, some (j, b)⟩) (hj : arr[j]? = some gd) (hd : gd.dst = some d) (hq : quiet P op = true) (hok : opOk P op = true) (hv : fget fr d = x)
    (h : gsel x b (Drd P n Q k arr i rest done dst op fr σ) (SK P n Q (.draw arr rest (i :: done) :: k) .normal (fput n fr dst .undef) σ)) : SK P n Q (.draw arr (i :: rest) done :: k) .normal fr σ := by
  have e := wantedA_guard (fr := fr) (dst := dst) (op := op) (ty := ty) (pos := pos) (aft := aft) (b := b) hj hd
  rw [hv] at e
  unfold gsel at h
  cases hx : isBool x b <;> rw [hx] at e h
  · simp only [SK] at h
    simp only [SK, ADraw, ho, hq, e]
    exact h
  · obtain ⟨v, hr, h⟩ := h
    simp only [SK] at h
    simp only [SK, ADraw, ho, hq, e]
    exact ⟨hok, v, hr, h⟩
variable {fl : List Nat}
theorem sk_dnr {v : AV} (ho : arr[i]? = some ⟨dst, op, ty, pos, aft, none⟩) (hq : quiet P op = false) (hfl : floats P arr i done = fl) (hok : opOk P op = true) (_ : isRd op = true) (hr : rd P (aeval fr) σ.m op = some v)
    (hre : Redos P n arr (fput n fr dst v) σ fl) (h : SK P n Q (.draw arr rest (i :: done) :: k) .normal (fput n fr dst v) σ) : SK P n Q (.draw arr (i :: rest) done :: k) .normal fr σ := sk_dn_rd ho hq hfl hok hr hre h
theorem sk_dnw {v : AV} {σ' : AHeap} (ho : arr[i]? = some ⟨dst, op, ty, pos, aft, none⟩) (hq : quiet P op = false) (hfl : floats P arr i done = fl) (hok : opOk P op = true) (_ : isWr op = true) (hr : wr P (aeval fr) σ op = some (v, σ'))
    (hre : Redos P n arr (fput n fr dst v) σ' fl) (h : SK P n Q (.draw arr rest (i :: done) :: k) .normal (fput n fr dst v) σ') : SK P n Q (.draw arr (i :: rest) done :: k) .normal fr σ := sk_dn_wr ho hq hfl hok hr hre h
theorem sk_dnc {f : FuncId} {args : List AV} (ho : arr[i]? = some ⟨dst, op, ty, pos, aft, none⟩) (hq : quiet P op = false) (hfl : floats P arr i done = fl) (hok : opOk P op = true) (hc : aCallee P (aeval fr) σ.m op = some (f, args))
    (h : Tr P f args σ fun v σ' => Redos P n arr (fput n fr dst v) σ' fl ∧ SK P n Q (.draw arr rest (i :: done) :: k) .normal (fput n fr dst v) σ') : SK P n Q (.draw arr (i :: rest) done :: k) .normal fr σ := sk_dn_call ho hq hfl hok hc h
theorem sk_dgc {f : FuncId} {args : List AV} {j : Nat} {b : Bool} {gd : Oper} {d : Tmp} (ho : arr[i]? = some ⟨dst, op, ty, pos, aft, some (j, b)⟩) (hj : arr[j]? = some gd) (hd : gd.dst = some d)
    (hq : quiet P op = false) (hfl : floats P arr i done = fl) (hok : opOk P op = true) (hc : (fget fr d, aCallee P (aeval fr) σ.m op) = (.bool b, some (f, args)))
    (h : Tr P f args σ fun v σ' => Redos P n arr (fput n fr dst v) σ' fl ∧ SK P n Q (.draw arr rest (i :: done) :: k) .normal (fput n fr dst v) σ') : SK P n Q (.draw arr (i :: rest) done :: k) .normal fr σ :=
  sk_dg_call ho hj hd (congrArg Prod.fst hc) hq hfl hok (congrArg Prod.snd hc) h
theorem sk_dgn {j : Nat} {b : Bool} {gd : Oper} {d : Tmp} (ho : arr[i]? = some ⟨dst, op, ty, pos, aft, some (j, b)⟩) (hj : arr[j]? = some gd) (hd : gd.dst = some d) (hq : quiet P op = false)
    (hfl : floats P arr i done = fl) (hv : fget fr d = .bool (!b)) (hre : Redos P n arr (fput n fr dst .undef) σ fl)
    (h : SK P n Q (.draw arr rest (i :: done) :: k) .normal (fput n fr dst .undef) σ) : SK P n Q (.draw arr (i :: rest) done :: k) .normal fr σ := sk_dg_noskip ho hj hd hv hq hfl hre h
end
section
variable {arr : Array Oper} {j d : Nat} {l : List Nat} {op : Op} {ty : TypeId} {pos : String} {aft : Array Edge} {v : AV} {g : Nat} {b : Bool} {gd : Oper} {gt : Nat}
theorem redos_r (ho : arr[j]? = some ⟨some d, op, ty, pos, aft, none⟩) (hok : opOk P op = true) (hp : (rd P (aeval fr) σ.m op, fget fr d) = (some v, v)) (h : Redos P n arr fr σ l) : Redos P n arr fr σ (j :: l) :=
  ⟨redo_rd ho hok (congrArg Prod.fst hp) (congrArg Prod.snd hp), h⟩
theorem redos_g (ho : arr[j]? = some ⟨some d, op, ty, pos, aft, some (g, b)⟩) (hg : arr[g]? = some gd) (hd : gd.dst = some gt) (hok : opOk P op = true) (hp : (fget fr gt, rd P (aeval fr) σ.m op, fget fr d) = (.bool b, some v, v))
    (h : Redos P n arr fr σ l) : Redos P n arr fr σ (j :: l) :=
  ⟨redo_grd ho hg hd (congrArg Prod.fst hp) hok (congrArg (fun x => x.2.1) hp) (congrArg (fun x => x.2.2) hp), h⟩
theorem redos_s (ho : arr[j]? = some ⟨some d, op, ty, pos, aft, some (g, b)⟩) (hg : arr[g]? = some gd) (hd : gd.dst = some gt) (hp : (fget fr gt, fget fr d) = (.bool (!b), .undef)) (h : Redos P n arr fr σ l) : Redos P n arr fr σ (j :: l) :=
  ⟨redo_gskip ho hg hd (congrArg Prod.fst hp) (congrArg Prod.snd hp), h⟩
end
end Go.Am
namespace Go.Am
variable {P : Program}
/-- a type of slices whose elements take z cells -/
def SlTy (P : Program) (st : TypeId) (z : Nat) : Prop := ∃ e i zz, P.underlying st = some (.slice e) ∧ P.info? e = some i ∧ i.size = z ∧ i.bytes ≤ 1024 ∧ zeroOf P e = some zz ∧ (aCells zz).length = z ∧ 0 < z
theorem getN_all {n : Nat} : ∀ {xs : List AV}, xs.length = n → getN n xs = some xs := by
  induction n with
  | zero => intro xs h; rw [List.eq_nil_of_length_eq_zero h]; rfl
  | succ n ih =>
    intro xs h
    match xs, h with
    | x :: xs, h => simp [getN, ih (xs := xs) (by simpa using h)]
theorem src_all {m : PT ABlock} {z n b c : Nat} {ex ro : Bool} {fz : Nat} {ps : List Nat} {xs : List AV} (hb : m.get b = some (.cells xs ro fz ps)) (hx : xs.length = n * z) (h0 : 0 < n * z) :
    aSrc m z n (.slice b 0 n c ex z) = some xs := by
  unfold aSrc
  simp only
  split
  · rename_i e; omega
  · rename_i k hk
    simp only [hb, sub, List.drop]
    exact getN_all hx
theorem app_first {st : TypeId} {z : Nat} {σ : AHeap} {c : Nat} {xs : List AV} {ro ex : Bool} {fz : Nat} {ps : List Nat} (h : SlTy P st z) (hx : xs.length = z) (hc : σ.m.get c = some (.cells xs ro fz ps)) :
    aAppend P σ [st, st] [.nilslice, .slice c 0 1 1 ex z] = some (.slice σ.next 0 1 1 false z, σ.push (.cells xs false 0 [])) := by
  obtain ⟨e, i, zz, h1, h2, h3, h4, h5, h6, h7⟩ := h
  have hs := src_all (z := z) (n := 1) (c := 1) (ex := ex) hc (by omega) (by omega)
  unfold aAppend
  simp only [h1, h2, h5, isIntTy, aLenOf, h3, hs, h6]
  rw [if_pos ⟨by omega, by omega, by omega, trivial⟩]
theorem app_next {st : TypeId} {z : Nat} {σ : AHeap} {c b n : Nat} {ys xs : List AV} {ro ex : Bool} {fz : Nat} {ps : List Nat} (h : SlTy P st z) (hy : ys.length = z) (hc : σ.m.get c = some (.cells ys ro fz ps))
    (hb : σ.m.get b = some (.cells xs false 0 [])) (hn : xs.length = n * z) (h0 : 0 < n) (hl : n ≤ 2000000) (ho : oneAll ys = true) :
    aAppend P σ [st, st] [.slice b 0 n n false z, .slice c 0 1 1 ex z] = some (.slice σ.next 0 (n + 1) (n + 1) false z, ⟨(σ.m.del b).set σ.next (.cells (xs ++ ys) false 0 []), σ.next + 1⟩) := by
  obtain ⟨e, i, zz, h1, h2, h3, h4, h5, h6, h7⟩ := h
  have hs := src_all (z := z) (n := 1) (c := 1) (ex := ex) hc (by omega) (by omega)
  have hs2 := src_all (z := z) (n := n) (c := n) (ex := false) hb hn (Nat.mul_pos h0 h7)
  unfold aAppend
  simp only [h1, h2, h5, isIntTy, aLenOf, h3, hs, hs2, nat_ble, nat_beq, decide_true]
  rw [show decide (n + 1 ≤ n) = false by simp]
  simp only
  have hbytes : (n + 1) * i.bytes ≤ 140737488355328 := Nat.le_trans (Nat.mul_le_mul (show n + 1 ≤ 2000001 by omega) h4) (by decide)
  rw [if_pos ⟨hbytes, by omega, by omega, h6⟩]
  rw [if_pos hn]
  simp only [hb, ho, Nat.zero_le, decide_true, Nat.zero_sub, delAll]
variable {n : Nat} {Q : Exit → PT AV → AHeap → Prop} {k : List Item} {fr : PT AV} {σ : AHeap}
theorem rd_add {ρ : Operand → AV} {m : PT ABlock} {t yt : TypeId} {x y : Operand} {a b : List Nat} (hx : ρ x = .str a) (hy : ρ y = .str b) (h : a.length + b.length ≤ 9223372036854775807) : rd P ρ m (.binOp .add t x y yt) = some (.str (a ++ b)) := by
  have h2 : ¬ ((a.length + b.length : Nat) : Int) > IntKind.i64.max := by
    have : IntKind.i64.max = 9223372036854775807 := by decide
    omega
  rw [rd_binOp, hx, hy]
  unfold aBin
  simp only [strOp, if_neg h2]
/-- a loop that is left in its first round -/
theorem sk_once {c : Code} (h : SK P n Q (.code c :: .stop (fun _ _ => False) :: k) .normal fr σ) : SK P n Q (.code (.loop c) :: k) .normal fr σ := by
  refine sk_loop (fun m fr' σ' => m = 0 ∧ fr' = fr ∧ σ' = σ) 0 ⟨rfl, rfl, rfl⟩ ?_
  rintro m fr' σ' ⟨rfl, rfl, rfl⟩
  have e : (fun (fr'' : PT AV) (σ'' : AHeap) => ∃ m', m' < 0 ∧ m' = 0 ∧ fr'' = fr' ∧ σ'' = σ') = fun _ _ => False := by
    funext a b
    exact propext ⟨fun ⟨_, h, _⟩ => absurd h (by omega), False.elim⟩
  rw [e]
  exact h
theorem keep_push {σ σ' : AHeap} {x : ABlock} (hW : WF σ) (hn : σ.next ≤ σ'.next) (h : ∀ b y, σ.m.get b = some y → σ'.m.get b = some y) : ∀ b y, σ.m.get b = some y → (σ'.push x).m.get b = some y := by
  intro b y hb
  have := wf_lt hW hb
  rw [get_push, if_neg (by omega)]
  exact h b y hb
/-- a piece that fits, and where it ends -/
theorem run_seg {p : Nat → Bool} {x : List Nat} {c : Nat} {y : List Nat} (hx : ∀ b ∈ x, p b = true) (hc : p c = false) (a : List Nat) : run p (a ++ (x ++ c :: y)) a.length = a.length + x.length := by
  unfold run
  rw [List.drop_left]
  congr 1
  rw [List.takeWhile_append_of_pos hx, List.takeWhile_cons_of_neg (by simp [hc])]
  simp
theorem rt_id {S l : List Nat} (h : ∀ c ∈ l, isIn S c = false) : (l.reverse.dropWhile (isIn S)).reverse = l := by
  have : l.reverse.dropWhile (isIn S) = l.reverse := by
    cases e : l.reverse with
    | nil => rfl
    | cons x t => rw [List.dropWhile_cons_of_neg (by rw [h x (List.mem_reverse.1 (by rw [e]; simp))]; simp)]
  rw [this, List.reverse_reverse]
theorem dw_id {S l : List Nat} (h : ∀ c ∈ l, isIn S c = false) : l.dropWhile (isIn S) = l := by
  cases l with
  | nil => rfl
  | cons x t => rw [List.dropWhile_cons_of_neg (by rw [h x (by simp)]; simp)]
theorem sk_add {arr : Array Oper} {rest : List Oper} {dst : Option Tmp} {ty t yt : TypeId} {pos : String} {aft : Array Edge} {x y : Operand} {a b : List Nat} (hok : opOk P (.binOp .add t x y yt) = true) (hx : aeval fr x = .str a) (hy : aeval fr y = .str b)
    (hl : a.length + b.length ≤ 9223372036854775807) (h : SK P n Q (.ops arr rest :: k) .normal (fput n fr dst (.str (a ++ b))) σ) : SK P n Q (.ops arr (⟨dst, .binOp .add t x y yt, ty, pos, aft, none⟩ :: rest) :: k) .normal fr σ :=
  sk_rd hok (rd_add hx hy hl) h
end Go.Am
namespace Go.Am
variable {P : Program}
open Go.RowKit
/-- where the program's own variables lie -/
def where0 (P : Program) : Where := ⟨fun g => if g < P.globals.size then some (g, 0) else none, fun _ => 0⟩
def heap0 (P : Program) : AHeap := ⟨.leaf, P.globals.size⟩
theorem get_leaf0 (b : Nat) : (PT.leaf : PT ABlock).get b = none := by
  unfold PT.get; exact PT.getP_leaf _
theorem srel0 (P : Program) (w : World) : SRel P (where0 P) (heap0 P) w := by
  refine ⟨⟨?_, ?_, ?_, ?_, ?_, ?_⟩, ?_⟩
  · intro b blk cb base h
    simp [heap0, get_leaf0] at h
  · intro b1 b2 k1 k2 cb o1 o2 _ h
    simp [heap0, get_leaf0] at h
  · intro b1 b2 k1 k2 h
    simp [heap0, get_leaf0] at h
  · intro b _
    simp [heap0, get_leaf0]
  · intro b x h
    simp only [where0] at h
    split at h
    · assumption
    · simp at h
  · intro b k p h
    simp [heap0, get_leaf0] at h
  · intro g hg
    simp [where0, hg]
/-- a call whose arguments hold no memory: behind it all memory is as it was -/
theorem Tr.entry {f : FuncId} {fn : Func} {c : Code} {args : List AV} {Q : AV → AHeap → Prop} {cargs : Array Value} {w : World} (h : Tr P f args (heap0 P) Q)
    (hf : P.funcs[f]? = some fn) (hb : fn.body = some c) (hn : (fn.name == "runtime.NumGoroutine") = false) (hr : VRels (where0 P) args cargs.toList) :
    Calls P f cargs w fun e w' => ∃ cv v σ' θ', e = .returned cv ∧ Q v σ' ∧ VRel θ' v cv ∧ Below w.heap.size w w' := by
  have fin : ∀ {θ' σ' w'}, Ev (where0 P) (heap0 P) w θ' σ' w' → Below w.heap.size w w' := fun e =>
    ⟨e.os, e.tape, e.output, e.size, fun k hk => e.frame k hk (by rintro ⟨b, blk, base, h, _⟩; simp [heap0, get_leaf0] at h)⟩
  rcases h (where0 P) w cargs (srel0 P w) hr with ⟨cv, w', v, σ', θ', h1, h2, h3⟩ | ⟨h1, h2⟩
  · rw [callFunc_enter hf hb hn] at h1
    cases h1
  · exact h2.mono fun e w' ⟨cv, v, σ', θ', k1, k2, k3, k4⟩ => ⟨cv, v, σ', θ', k1, k2, k4, fin k3⟩
end Go.Am
