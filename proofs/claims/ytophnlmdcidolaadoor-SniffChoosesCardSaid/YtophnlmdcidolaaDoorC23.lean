import Derived.Test.YtophnlmdcidolaaDoorC22
set_option linter.all false
namespace Go.Am
variable {P : Program}

/-! For simp. -/
@[go_sem] theorem fget_set (fr : PT AV) (d t : Nat) (v : AV) : fget (fr.set d v) t = if d = t then v else fget fr t := by
  simp only [fget, PT.get_set]
  by_cases e : d = t <;> simp [e]
@[go_sem] theorem fput_none (n : Nat) (fr : PT AV) (v : AV) : fput n fr none v = fr := rfl
@[go_sem] theorem fput_some (n : Nat) (fr : PT AV) (d : Nat) (v : AV) : fput n fr (some d) v = if d < n then fr.set d v else fr := by
  simp only [fput]
  by_cases e : d < n
  · have : Nat.blt d n = true := by simpa [Nat.blt_eq] using e
    simp [this, e]
  · have : Nat.blt d n = false := by
      cases h : Nat.blt d n with
      | false => rfl
      | true => exact absurd (by simpa [Nat.blt_eq] using h) e
    simp [this, e]
attribute [go_sem] fget_finit
@[go_sem] theorem aeval_tmp (fr : PT AV) (t : Nat) : aeval fr (.tmp t) = fget fr t := rfl
@[go_sem] theorem aeval_int (fr : PT AV) (k : IntKind) (n : Int) : aeval fr (.const (.int k n)) = .int k n := rfl
@[go_sem] theorem aeval_bool (fr : PT AV) (b : Bool) : aeval fr (.const (.bool b)) = .bool b := rfl
@[go_sem] theorem aeval_string (fr : PT AV) (s : ByteArray) : aeval fr (.const (.string s)) = .str (bytesOf s) := rfl
@[go_sem] theorem aeval_nilptr (fr : PT AV) : aeval fr (.const (.pointer none)) = .nilptr := rfl
@[go_sem] theorem aeval_nilslice (fr : PT AV) : aeval fr (.const (.slice none 0 0)) = .nilslice := rfl
@[go_sem] theorem aeval_nilmap (fr : PT AV) : aeval fr (.const (.map none)) = .nilmap := rfl
@[go_sem] theorem aeval_nilIface (fr : PT AV) : aeval fr (.const .nilIface) = .nilIface := rfl
@[go_sem] theorem aeval_nilFunc (fr : PT AV) : aeval fr (.const .nilFunc) = .nilFunc := rfl
@[go_sem] theorem aeval_global (fr : PT AV) (g : Nat) : aeval fr (.global g) = .ptr g 0 := rfl
@[go_sem] theorem aeval_func (fr : PT AV) (f : Nat) : aeval fr (.func f) = .func (.func f) [] [] := rfl

@[go_sem] theorem rd_move (ρ : Operand → AV) (σ : PT ABlock) (x : Operand) : rd P ρ σ (.move x) = some (ρ x) := rfl
@[go_sem] theorem rd_assign (ρ : Operand → AV) (σ : PT ABlock) (x : Operand) : rd P ρ σ (.assign x) = some (ρ x) := rfl
@[go_sem] theorem rd_load (ρ : Operand → AV) (σ : PT ABlock) (t : TypeId) (x : Operand) : rd P ρ σ (.load t x) = aLoad P σ t (ρ x) := rfl
@[go_sem] theorem rd_binOp (ρ : Operand → AV) (σ : PT ABlock) (op : BinOp) (t : TypeId) (x y : Operand) (yt : TypeId) : rd P ρ σ (.binOp op t x y yt) = aBin P op t x y (ρ x) (ρ y) := rfl
@[go_sem] theorem rd_unOp (ρ : Operand → AV) (σ : PT ABlock) (op : UnOp) (t : TypeId) (x : Operand) : rd P ρ σ (.unOp op t x) = aUn op (ρ x) := rfl
@[go_sem] theorem rd_fieldAddr (ρ : Operand → AV) (σ : PT ABlock) (t : TypeId) (x : Operand) (f : Nat) : rd P ρ σ (.fieldAddr t x f) = aFieldAddr P t (ρ x) f := rfl
@[go_sem] theorem rd_field (ρ : Operand → AV) (σ : PT ABlock) (t : TypeId) (x : Operand) (f : Nat) : rd P ρ σ (.field t x f) = aField P t (ρ x) f := rfl
@[go_sem] theorem rd_index (ρ : Operand → AV) (σ : PT ABlock) (t : TypeId) (x i : Operand) : rd P ρ σ (.index t x i) = aIndex P t (ρ x) (ρ i) := rfl
@[go_sem] theorem rd_indexAddr (ρ : Operand → AV) (σ : PT ABlock) (t : TypeId) (x i : Operand) : rd P ρ σ (.indexAddr t x i) = aIndexAddr P t (ρ x) (ρ i) := rfl
@[go_sem] theorem rd_convert (ρ : Operand → AV) (σ : PT ABlock) (s d : TypeId) (x : Operand) : rd P ρ σ (.convert s d x) = aConv P σ s d (ρ x) := rfl
@[go_sem] theorem rd_build (ρ : Operand → AV) (σ : PT ABlock) (t : TypeId) (ps : Array (Nat × Operand)) : rd P ρ σ (.build t ps) = aBuild P t (mapParts ρ ps.toList) := rfl
@[go_sem] theorem rd_pick (ρ : Operand → AV) (σ : PT ABlock) (c a b : Operand) : rd P ρ σ (.pick c a b) = match ρ c with
    | .bool true => some (ρ a)
    | .bool false => some (ρ b)
    | _ => none := rfl
@[go_sem] theorem rd_nilCheck (ρ : Operand → AV) (σ : PT ABlock) (x : Operand) : rd P ρ σ (.nilCheck x) = match ρ x with
    | .nilptr => none
    | .nilIface => none
    | .nilFunc => none
    | .func (.method _) _ _ => none
    | v => some v := rfl
@[go_sem] theorem rd_slice (ρ : Operand → AV) (σ : PT ABlock) (t : TypeId) (x : Operand) (lo hi mx : Option Operand) : rd P ρ σ (.slice t x lo hi mx) = aSlice P σ t (ρ x) (optMap ρ lo) (optMap ρ hi) (optMap ρ mx) := rfl
@[go_sem] theorem rd_extract (ρ : Operand → AV) (σ : PT ABlock) (x : Operand) (i : Nat) : rd P ρ σ (.extract x i) = match ρ x with
    | .tuple xs => xs[i]?
    | _ => none := rfl
@[go_sem] theorem rd_builtin (ρ : Operand → AV) (σ : PT ABlock) (b : Builtin) (xs : Array Operand) (ts : Array TypeId) : rd P ρ σ (.call ⟨.builtin b, xs, ts⟩) = rdBuiltin P σ b ts.toList (mapOps ρ xs.toList) := rfl
attribute [go_sem] aLoad aFieldAddr aField aIndexAddr aIndex aBin aUn intOp shiftOp strOp aPart aConv aSlice aBound optMap aBuild rdBuiltin aLen aCap mapOps mapParts

theorem PT.setP_setP {α : Type} : ∀ (p : List Bool) (t : PT α) (v u : Option α), PT.setP p (PT.setP p t v) u = PT.setP p t u
  | [], .leaf, _, _ => rfl
  | [], .node .., _, _ => rfl
  | b :: p, .leaf, v, u => by cases b <;> simp only [PT.setP, PT.setP_setP p]
  | b :: p, .node x l r, v, u => by cases b <;> simp only [PT.setP, PT.setP_setP p]
theorem PT.setP_self {α : Type} : ∀ (p : List Bool) (t : PT α) (v : α), t.getP p = some v → PT.setP p t (some v) = t
  | [], .leaf, v, h => by simp [PT.getP] at h
  | [], .node x l r, v, h => by simp [PT.getP] at h; simp [PT.setP, h]
  | b :: p, .leaf, v, h => by simp [PT.getP] at h
  | b :: p, .node x l r, v, h => by
    cases b
    · simp only [PT.getP] at h; simp only [PT.setP, PT.setP_self p l v h]
    · simp only [PT.getP] at h; simp only [PT.setP, PT.setP_self p r v h]

@[go_sem] theorem put_put (σ : AHeap) (b : Nat) (x y : ABlock) : (σ.put b x []).put b y [] = σ.put b y [] := by
  simp only [AHeap.put, delAll, PT.set, PT.setP_setP]
theorem put_self {σ : AHeap} {b : Nat} {x : ABlock} (h : σ.m.get b = some x) : σ.put b x [] = σ := by
  simp only [AHeap.put, delAll, PT.set]
  rw [PT.setP_self _ _ _ h]
theorem get_put (σ : AHeap) (b c : Nat) (x : ABlock) : (σ.put b x []).m.get c = if b = c then some x else σ.m.get c := by
  simp only [AHeap.put, delAll, PT.get_set]
@[go_sem] theorem get_put_same (σ : AHeap) (b : Nat) (x : ABlock) : (σ.put b x []).m.get b = some x := by rw [get_put, if_pos rfl]
@[go_sem] theorem next_put (σ : AHeap) (b : Nat) (x : ABlock) : (σ.put b x []).next = σ.next := rfl
theorem get_push (σ : AHeap) (c : Nat) (x : ABlock) : (σ.push x).m.get c = if σ.next = c then some x else σ.m.get c := by
  simp only [AHeap.push, PT.get_set]
@[go_sem] theorem get_push_same (σ : AHeap) (x : ABlock) : (σ.push x).m.get σ.next = some x := by rw [get_push, if_pos rfl]
@[go_sem] theorem next_push (σ : AHeap) (x : ABlock) : (σ.push x).next = σ.next + 1 := rfl
@[go_sem] theorem put_push_same (σ : AHeap) (x y : ABlock) : (σ.push x).put σ.next y [] = σ.push y := by
  simp only [AHeap.push, AHeap.put, delAll, PT.set, PT.setP_setP]

@[go_sem] theorem wr_store (ρ : Operand → AV) (σ : AHeap) (t : TypeId) (p v : Operand) : wr P ρ σ (.store t p v) = match aStore P σ t (ρ p) (ρ v) with
    | some σ' => some (.undef, σ')
    | none => none := rfl
@[go_sem] theorem wr_alloc (ρ : Operand → AV) (σ : AHeap) (e : TypeId) : wr P ρ σ (.alloc e) = match zeroOf P e with
    | some z => some (.ptr σ.next 0, σ.push (.cells (aCells z) false 0 []))
    | none => none := rfl
@[go_sem] theorem wr_box (ρ : Operand → AV) (σ : AHeap) (e : TypeId) (v : Operand) : wr P ρ σ (.box e v) = some (.ptr σ.next 0, σ.push (.cells (aCells (ρ v)) false 0 [])) := rfl
@[go_sem] theorem wr_buildSlice (ρ : Operand → AV) (σ : AHeap) (t : TypeId) (n : Nat) (ps : Array (Nat × Operand)) : wr P ρ σ (.buildSlice t n ps) = aBuildSlice P σ t n (mapParts ρ ps.toList) := rfl
@[go_sem] theorem wr_makeSlice (ρ : Operand → AV) (σ : AHeap) (t : TypeId) (l c : Operand) : wr P ρ σ (.makeSlice t l c) = aMakeSlice P σ t (ρ l) (ρ c) := rfl
@[go_sem] theorem wr_convert (ρ : Operand → AV) (σ : AHeap) (s d : TypeId) (x : Operand) : wr P ρ σ (.convert s d x) = aToBytes P σ s d (ρ x) := rfl
@[go_sem] theorem wr_range (ρ : Operand → AV) (σ : AHeap) (t : TypeId) (x : Operand) : wr P ρ σ (.range t x) = aRange P σ t (ρ x) := rfl
@[go_sem] theorem wr_next (ρ : Operand → AV) (σ : AHeap) (x : Operand) : wr P ρ σ (.next x true) = aNext σ (ρ x) := rfl
@[go_sem] theorem wr_append (ρ : Operand → AV) (σ : AHeap) (xs : Array Operand) (ts : Array TypeId) : wr P ρ σ (.call ⟨.builtin .append, xs, ts⟩) = aAppend P σ ts.toList (mapOps ρ xs.toList) := rfl
@[go_sem] theorem wr_copy (ρ : Operand → AV) (σ : AHeap) (xs : Array Operand) (ts : Array TypeId) : wr P ρ σ (.call ⟨.builtin .copy, xs, ts⟩) = aCopy P σ ts.toList (mapOps ρ xs.toList) := rfl
attribute [go_sem] aStore aRange aToBytes aNext aCells oneAll lay aFill fieldPlaces aCallee
@[go_sem] theorem nat_beq (a b : Nat) : Nat.beq a b = decide (a = b) := by
  rw [Bool.eq_iff_iff]; simp
@[go_sem] theorem nat_ble (a b : Nat) : Nat.ble a b = decide (a ≤ b) := by
  rw [Bool.eq_iff_iff]; simp
@[go_sem] theorem nat_blt (a b : Nat) : Nat.blt a b = decide (a < b) := by
  rw [Bool.eq_iff_iff]; simp [Nat.blt_eq]

theorem redo_rd {n : Nat} {arr : Array Oper} {fr : PT AV} {σ : AHeap} {j : Nat} {d : Nat} {op : Op} {ty : TypeId} {pos : String} {aft : Array Edge} {v : AV}
    (ho : arr[j]? = some ⟨some d, op, ty, pos, aft, none⟩) (hok : opOk P op = true) (hr : rd P (aeval fr) σ.m op = some v) (hv : fget fr d = v) : Redo P n arr fr σ j := by
  unfold Redo
  rw [ho]
  exact ⟨v, hok, hr, fun e he => by simp at he; subst he; exact hv⟩
theorem redo_grd {n : Nat} {arr : Array Oper} {fr : PT AV} {σ : AHeap} {j : Nat} {d : Nat} {op : Op} {ty : TypeId} {pos : String} {aft : Array Edge} {v : AV} {g : Nat} {b : Bool} {gd : Oper} {gt : Nat}
    (ho : arr[j]? = some ⟨some d, op, ty, pos, aft, some (g, b)⟩) (hg : arr[g]? = some gd) (hd : gd.dst = some gt) (hgv : fget fr gt = .bool b) (hok : opOk P op = true) (hr : rd P (aeval fr) σ.m op = some v) (hv : fget fr d = v) : Redo P n arr fr σ j := by
  unfold Redo
  rw [ho]
  simp only
  rw [wantedA_some hg hd hgv]
  simp only [beq_self_eq_true]
  exact ⟨v, hok, hr, fun e he => by simp at he; subst he; exact hv⟩
theorem redo_gskip {n : Nat} {arr : Array Oper} {fr : PT AV} {σ : AHeap} {j : Nat} {d : Nat} {op : Op} {ty : TypeId} {pos : String} {aft : Array Edge} {g : Nat} {b : Bool} {gd : Oper} {gt : Nat}
    (ho : arr[j]? = some ⟨some d, op, ty, pos, aft, some (g, b)⟩) (hg : arr[g]? = some gd) (hd : gd.dst = some gt) (hgv : fget fr gt = .bool (!b)) (hv : fget fr d = .undef) : Redo P n arr fr σ j := by
  unfold Redo
  rw [ho]
  simp only
  rw [wantedA_some hg hd hgv]
  have hh : ∀ e, some d = some e → fget fr e = .undef := fun e he => by simp at he; subst he; exact hv
  cases b <;> exact hh
end Go.Am
