import Derived.Test.YtophnlmdcidolaaDoorC21
set_option linter.all false
namespace Go.Am
variable {P : Program}

/-! Walking: what is still to be done, as a list. -/

inductive Item where
  | code (c : Code)
  | ops (arr : Array Oper) (l : List Oper)
  | draw (arr : Array Oper) (todo done : List Nat)
  | blk (id : Nat)
  | stop (J : PT AV → AHeap → Prop)

def leave : List Item → Nat → Option (List Item)
  | [], _ => none
  | .blk id' :: k, id => if id = id' then some k else leave k id
  | _ :: k, id => leave k id

/-- what a list of things to do comes to -/
def SK (P : Program) (n : Nat) (Q : Exit → PT AV → AHeap → Prop) : List Item → Exit → PT AV → AHeap → Prop
  | [], e, fr, σ => Q e fr σ
  | .code c :: k, .normal, fr, σ => ACode P n c (SK P n Q k) fr σ
  | .ops arr l :: k, .normal, fr, σ => AOps P n arr (SK P n Q k .normal) l fr σ
  | .draw arr todo done :: k, .normal, fr, σ => ADraw P n arr (masks arr) (SK P n Q k .normal) todo done fr σ
  | .stop J :: _, .normal, fr, σ => J fr σ
  | .blk _ :: k, .normal, fr, σ => SK P n Q k .normal fr σ
  | .blk id :: k, .exit id', fr, σ => if id' = id then SK P n Q k .normal fr σ else SK P n Q k (.exit id') fr σ
  | _ :: k, e, fr, σ => SK P n Q k e fr σ

section
variable {n : Nat} {Q : Exit → PT AV → AHeap → Prop} {k : List Item} {fr : PT AV} {σ : AHeap}

theorem sk_body {f : FuncId} {fn : Func} {c : Code} {args : List AV} {σ : AHeap} {Q : AV → AHeap → Prop} {m : Nat} (hf : P.funcs[f]? = some fn) (hb : fn.body = some c) (hn : (fn.name == "runtime.NumGoroutine") = false)
    (hm : args.length + (fn.ntmps - args.length) = m) (h : SK P m (BodyQ P fn Q) [.code c] .normal (finit args) σ) : Tr P f args σ Q := by
  subst hm
  exact Tr.of_body hf hb hn (acode_mono h fun e fr' σ' hq => by cases e <;> exact hq)

theorem sk_skip (h : SK P n Q k .normal fr σ) : SK P n Q (.code .skip :: k) .normal fr σ := acode_skip h
theorem sk_label {l : Nat} (h : SK P n Q k .normal fr σ) : SK P n Q (.code (.label l) :: k) .normal fr σ := acode_label h
theorem sk_seq {x y : Code} (h : SK P n Q (.code x :: .code y :: k) .normal fr σ) : SK P n Q (.code (.seq x y) :: k) .normal fr σ := by
  refine acode_seq (acode_mono h fun e fr' σ' hq => ?_)
  cases e <;> exact hq
theorem sk_block {id : Nat} {c : Code} (h : SK P n Q (.code c :: .blk id :: k) .normal fr σ) : SK P n Q (.code (.block id c) :: k) .normal fr σ := by
  refine acode_block (acode_mono h fun e fr' σ' hq => ?_)
  cases e <;> exact hq
theorem sk_blk {id : Nat} (h : SK P n Q k .normal fr σ) : SK P n Q (.blk id :: k) .normal fr σ := h
theorem sk_stop {J : PT AV → AHeap → Prop} (h : J fr σ) : SK P n Q (.stop J :: k) .normal fr σ := h

theorem sk_leave : ∀ {k : List Item} {id : Nat} {k' : List Item}, leave k id = some k' → SK P n Q k' .normal fr σ → SK P n Q k (.exit id) fr σ
  | [], id, k', h, _ => by simp [leave] at h
  | .blk id' :: k, id, k', h, hs => by
    simp only [leave] at h
    simp only [SK]
    split at h
    · rename_i e; rw [if_pos e]; simp at h; subst h; exact hs
    · rename_i e; rw [if_neg e]; exact sk_leave h hs
  | .code c :: k, id, k', h, hs => by simp only [leave] at h; simp only [SK]; exact sk_leave h hs
  | .ops arr l :: k, id, k', h, hs => by simp only [leave] at h; simp only [SK]; exact sk_leave h hs
  | .draw arr a b :: k, id, k', h, hs => by simp only [leave] at h; simp only [SK]; exact sk_leave h hs
  | .stop J :: k, id, k', h, hs => by simp only [leave] at h; simp only [SK]; exact sk_leave h hs
theorem sk_exit {id : Nat} {k' : List Item} (hl : leave k id = some k') (h : SK P n Q k' .normal fr σ) : SK P n Q (.code (.exit id) :: k) .normal fr σ := acode_exit (sk_leave hl h)

theorem sk_ret_pass : ∀ {k : List Item}, Q .ret fr σ → SK P n Q k .ret fr σ
  | [], h => h
  | .blk _ :: k, h => by simp only [SK]; exact sk_ret_pass h
  | .code _ :: k, h => by simp only [SK]; exact sk_ret_pass h
  | .ops .. :: k, h => by simp only [SK]; exact sk_ret_pass h
  | .draw .. :: k, h => by simp only [SK]; exact sk_ret_pass h
  | .stop _ :: k, h => by simp only [SK]; exact sk_ret_pass h
theorem sk_ret (h : Q .ret fr σ) : SK P n Q (.code .ret :: k) .normal fr σ := acode_ret (sk_ret_pass h)

theorem sk_true {c : Operand} {x y : Code} (hok : opdOk P c = true) (hc : aeval fr c = .bool true) (h : SK P n Q (.code x :: k) .normal fr σ) : SK P n Q (.code (.cond c x y) :: k) .normal fr σ := acode_cond hc hok h
theorem sk_false {c : Operand} {x y : Code} (hok : opdOk P c = true) (hc : aeval fr c = .bool false) (h : SK P n Q (.code y :: k) .normal fr σ) : SK P n Q (.code (.cond c x y) :: k) .normal fr σ := acode_cond hc hok h
theorem sk_cond {c : Operand} {x y : Code} {b : Bool} (hok : opdOk P c = true) (hc : aeval fr c = .bool b) (ht : b = true → SK P n Q (.code x :: k) .normal fr σ) (hf : b = false → SK P n Q (.code y :: k) .normal fr σ) :
    SK P n Q (.code (.cond c x y) :: k) .normal fr σ := by
  cases b
  · exact sk_false hok hc (hf rfl)
  · exact sk_true hok hc (ht rfl)

theorem sk_loop {c : Code} (I : Nat → PT AV → AHeap → Prop) (m0 : Nat) (h0 : I m0 fr σ)
    (round : ∀ m fr σ, I m fr σ → SK P n Q (.code c :: .stop (fun fr' σ' => ∃ m', m' < m ∧ I m' fr' σ') :: k) .normal fr σ) : SK P n Q (.code (.loop c) :: k) .normal fr σ := by
  refine acode_loop I m0 h0 fun m fr σ hI => acode_mono (round m fr σ hI) fun e fr' σ' hq => ?_
  cases e <;> exact hq

theorem sk_region {id : Nat} {l : List Oper} (h : SK P n Q (.ops l.toArray l :: k) .normal fr σ) : SK P n Q (.code (.region id l.toArray false) :: k) .normal fr σ := acode_region h
theorem sk_ops_nil {arr : Array Oper} (h : SK P n Q k .normal fr σ) : SK P n Q (.ops arr [] :: k) .normal fr σ := h

section
variable {arr : Array Oper} {rest : List Oper} {dst : Option Tmp} {op : Op} {ty : TypeId} {pos : String} {aft : Array Edge} {g : Option (Nat × Bool)}

theorem sk_want {o : Oper} (hw : wantedA arr fr o = true) (h : AExec P n o fr σ (fun fr' σ' => SK P n Q (.ops arr rest :: k) .normal fr' σ')) : SK P n Q (.ops arr (o :: rest) :: k) .normal fr σ := by
  simp only [SK, AOps, hw]
  exact h
theorem sk_pass {o : Oper} (hw : wantedA arr fr o = false) (h : SK P n Q (.ops arr rest :: k) .normal (fput n fr o.dst .undef) σ) : SK P n Q (.ops arr (o :: rest) :: k) .normal fr σ := by
  simp only [SK, AOps, hw]
  exact h

theorem sk_rd {v : AV} (hok : opOk P op = true) (hr : rd P (aeval fr) σ.m op = some v) (h : SK P n Q (.ops arr rest :: k) .normal (fput n fr dst v) σ) : SK P n Q (.ops arr (⟨dst, op, ty, pos, aft, none⟩ :: rest) :: k) .normal fr σ :=
  sk_want rfl ⟨hok, .inl ⟨v, hr, h⟩⟩
theorem sk_wr {v : AV} {σ' : AHeap} (hok : opOk P op = true) (hr : wr P (aeval fr) σ op = some (v, σ')) (h : SK P n Q (.ops arr rest :: k) .normal (fput n fr dst v) σ') : SK P n Q (.ops arr (⟨dst, op, ty, pos, aft, none⟩ :: rest) :: k) .normal fr σ :=
  sk_want rfl ⟨hok, .inr (.inl ⟨v, σ', hr, h⟩)⟩
theorem sk_call {f : FuncId} {args : List AV} (hok : opOk P op = true) (hc : aCallee P (aeval fr) σ.m op = some (f, args)) (h : Tr P f args σ fun v σ' => SK P n Q (.ops arr rest :: k) .normal (fput n fr dst v) σ') :
    SK P n Q (.ops arr (⟨dst, op, ty, pos, aft, none⟩ :: rest) :: k) .normal fr σ :=
  sk_want rfl ⟨hok, .inr (.inr ⟨f, args, hc, h⟩)⟩

theorem wantedA_some {j : Nat} {b b' : Bool} {gd : Oper} {d : Tmp} (hj : arr[j]? = some gd) (hd : gd.dst = some d) (hv : fget fr d = .bool b') : wantedA arr fr ⟨dst, op, ty, pos, aft, some (j, b)⟩ = (b' == b) := by
  simp [wantedA, hj, hd, hv, isBool]

theorem sk_grd {v : AV} {j : Nat} {b : Bool} {gd : Oper} {d : Tmp} (hj : arr[j]? = some gd) (hd : gd.dst = some d) (hv : fget fr d = .bool b) (hok : opOk P op = true) (hr : rd P (aeval fr) σ.m op = some v)
    (h : SK P n Q (.ops arr rest :: k) .normal (fput n fr dst v) σ) : SK P n Q (.ops arr (⟨dst, op, ty, pos, aft, some (j, b)⟩ :: rest) :: k) .normal fr σ :=
  sk_want (by rw [wantedA_some hj hd hv]; simp) ⟨hok, .inl ⟨v, hr, h⟩⟩
theorem sk_gwr {v : AV} {σ' : AHeap} {j : Nat} {b : Bool} {gd : Oper} {d : Tmp} (hj : arr[j]? = some gd) (hd : gd.dst = some d) (hv : fget fr d = .bool b) (hok : opOk P op = true) (hr : wr P (aeval fr) σ op = some (v, σ'))
    (h : SK P n Q (.ops arr rest :: k) .normal (fput n fr dst v) σ') : SK P n Q (.ops arr (⟨dst, op, ty, pos, aft, some (j, b)⟩ :: rest) :: k) .normal fr σ :=
  sk_want (by rw [wantedA_some hj hd hv]; simp) ⟨hok, .inr (.inl ⟨v, σ', hr, h⟩)⟩
theorem sk_gcall {f : FuncId} {args : List AV} {j : Nat} {b : Bool} {gd : Oper} {d : Tmp} (hj : arr[j]? = some gd) (hd : gd.dst = some d) (hv : fget fr d = .bool b) (hok : opOk P op = true) (hc : aCallee P (aeval fr) σ.m op = some (f, args))
    (h : Tr P f args σ fun v σ' => SK P n Q (.ops arr rest :: k) .normal (fput n fr dst v) σ') : SK P n Q (.ops arr (⟨dst, op, ty, pos, aft, some (j, b)⟩ :: rest) :: k) .normal fr σ :=
  sk_want (by rw [wantedA_some hj hd hv]; simp) ⟨hok, .inr (.inr ⟨f, args, hc, h⟩)⟩
theorem sk_gskip {j : Nat} {b : Bool} {gd : Oper} {d : Tmp} (hj : arr[j]? = some gd) (hd : gd.dst = some d) (hv : fget fr d = .bool (!b))
    (h : SK P n Q (.ops arr rest :: k) .normal (fput n fr dst .undef) σ) : SK P n Q (.ops arr (⟨dst, op, ty, pos, aft, some (j, b)⟩ :: rest) :: k) .normal fr σ :=
  sk_pass (by rw [wantedA_some hj hd hv]; cases b <;> rfl) h
end

/-! draws -/

theorem sk_draw {id : Nat} {arr : Array Oper} (order : List Nat) (hm : P.follows .mixedOrders = true) (hp : planOk P arr n order = true) (h : SK P n Q (.draw arr order [] :: k) .normal fr σ) : SK P n Q (.code (.region id arr true) :: k) .normal fr σ :=
  acode_draw hm hp h
theorem sk_draw_nil {arr : Array Oper} {done : List Nat} (h : SK P n Q k .normal fr σ) : SK P n Q (.draw arr [] done :: k) .normal fr σ := h

section
variable {arr : Array Oper} {i : Nat} {rest done : List Nat} {dst : Option Tmp} {op : Op} {ty : TypeId} {pos : String} {aft : Array Edge} {g : Option (Nat × Bool)}

theorem sk_drd {v : AV} (ho : arr[i]? = some ⟨dst, op, ty, pos, aft, none⟩) (hq : quiet P op = true) (hok : opOk P op = true) (hr : rd P (aeval fr) σ.m op = some v) (h : SK P n Q (.draw arr rest (i :: done) :: k) .normal (fput n fr dst v) σ) :
    SK P n Q (.draw arr (i :: rest) done :: k) .normal fr σ := by
  simp only [SK, ADraw, ho, hq, wantedA]
  exact ⟨hok, v, hr, h⟩
theorem sk_dgrd {v : AV} {j : Nat} {b : Bool} {gd : Oper} {d : Tmp} (ho : arr[i]? = some ⟨dst, op, ty, pos, aft, some (j, b)⟩) (hj : arr[j]? = some gd) (hd : gd.dst = some d) (hv : fget fr d = .bool b) (hq : quiet P op = true) (hok : opOk P op = true)
    (hr : rd P (aeval fr) σ.m op = some v) (h : SK P n Q (.draw arr rest (i :: done) :: k) .normal (fput n fr dst v) σ) : SK P n Q (.draw arr (i :: rest) done :: k) .normal fr σ := by
  simp only [SK, ADraw, ho, hq]
  rw [wantedA_some hj hd hv]
  simp only [beq_self_eq_true]
  exact ⟨hok, v, hr, h⟩
theorem sk_dgskip {j : Nat} {b : Bool} {gd : Oper} {d : Tmp} (ho : arr[i]? = some ⟨dst, op, ty, pos, aft, some (j, b)⟩) (hj : arr[j]? = some gd) (hd : gd.dst = some d) (hv : fget fr d = .bool (!b)) (hq : quiet P op = true)
    (h : SK P n Q (.draw arr rest (i :: done) :: k) .normal (fput n fr dst .undef) σ) : SK P n Q (.draw arr (i :: rest) done :: k) .normal fr σ := by
  simp only [SK, ADraw, ho, hq]
  rw [wantedA_some hj hd hv]
  cases b <;> exact h

/-- those that are told already and may come behind the operation -/
def floats (P : Program) (arr : Array Oper) (i : Nat) (done : List Nat) : List Nat :=
  done.filter fun j => (match arr[j]? with | some x => quiet P x.op | none => false) && !((masks arr).getD i 0).testBit j

def Redos (P : Program) (n : Nat) (arr : Array Oper) (fr : PT AV) (σ : AHeap) : List Nat → Prop
  | [] => True
  | j :: l => Redo P n arr fr σ j ∧ Redos P n arr fr σ l

theorem redos_mem : ∀ {l : List Nat} {j : Nat}, Redos P n arr fr σ l → j ∈ l → Redo P n arr fr σ j
  | i :: l, j, h, hj => by
    rcases List.mem_cons.1 hj with rfl | hj
    · exact h.1
    · exact redos_mem h.2 hj

theorem sk_dnoisy {o : Oper} {fl : List Nat} (ho : arr[i]? = some o) (hq : quiet P o.op = false) (hfl : floats P arr i done = fl) (hw : wantedA arr fr o = true)
    (h : AExec P n o fr σ (fun fr' σ' => Redos P n arr fr' σ' fl ∧ SK P n Q (.draw arr rest (i :: done) :: k) .normal fr' σ')) : SK P n Q (.draw arr (i :: rest) done :: k) .normal fr σ := by
  simp only [SK, ADraw, ho, hq, hw]
  have hK : ∀ fr' σ', (Redos P n arr fr' σ' fl ∧ SK P n Q (.draw arr rest (i :: done) :: k) .normal fr' σ') →
      ((∀ j ∈ done, (match arr[j]? with | some x => quiet P x.op | none => false) = true → ((masks arr).getD i 0).testBit j = false → Redo P n arr fr' σ' j) ∧ ADraw P n arr (masks arr) (SK P n Q k .normal) rest (i :: done) fr' σ') := by
    rintro fr' σ' ⟨h1, h2⟩
    refine ⟨fun j hj e1 e2 => redos_mem h1 ?_, h2⟩
    rw [← hfl]
    unfold floats
    rw [List.mem_filter]
    exact ⟨hj, by rw [e1, e2]; rfl⟩
  obtain ⟨hok, ⟨v, h1, h2⟩ | ⟨v, σ', h1, h2⟩ | ⟨f, args, h1, h2⟩⟩ := h
  · exact ⟨hok, .inl ⟨v, h1, hK _ _ h2⟩⟩
  · exact ⟨hok, .inr (.inl ⟨v, σ', h1, hK _ _ h2⟩)⟩
  · exact ⟨hok, .inr (.inr ⟨f, args, h1, h2.mono fun v σ' h => hK _ _ h⟩)⟩

theorem sk_dn_rd {v : AV} {fl : List Nat} (ho : arr[i]? = some ⟨dst, op, ty, pos, aft, none⟩) (hq : quiet P op = false) (hfl : floats P arr i done = fl) (hok : opOk P op = true) (hr : rd P (aeval fr) σ.m op = some v)
    (hre : Redos P n arr (fput n fr dst v) σ fl) (h : SK P n Q (.draw arr rest (i :: done) :: k) .normal (fput n fr dst v) σ) : SK P n Q (.draw arr (i :: rest) done :: k) .normal fr σ :=
  sk_dnoisy ho hq hfl rfl ⟨hok, .inl ⟨v, hr, hre, h⟩⟩
theorem sk_dn_wr {v : AV} {σ' : AHeap} {fl : List Nat} (ho : arr[i]? = some ⟨dst, op, ty, pos, aft, none⟩) (hq : quiet P op = false) (hfl : floats P arr i done = fl) (hok : opOk P op = true) (hr : wr P (aeval fr) σ op = some (v, σ'))
    (hre : Redos P n arr (fput n fr dst v) σ' fl) (h : SK P n Q (.draw arr rest (i :: done) :: k) .normal (fput n fr dst v) σ') : SK P n Q (.draw arr (i :: rest) done :: k) .normal fr σ :=
  sk_dnoisy ho hq hfl rfl ⟨hok, .inr (.inl ⟨v, σ', hr, hre, h⟩)⟩
theorem sk_dn_call {f : FuncId} {args : List AV} {fl : List Nat} (ho : arr[i]? = some ⟨dst, op, ty, pos, aft, none⟩) (hq : quiet P op = false) (hfl : floats P arr i done = fl) (hok : opOk P op = true) (hc : aCallee P (aeval fr) σ.m op = some (f, args))
    (h : Tr P f args σ fun v σ' => Redos P n arr (fput n fr dst v) σ' fl ∧ SK P n Q (.draw arr rest (i :: done) :: k) .normal (fput n fr dst v) σ') : SK P n Q (.draw arr (i :: rest) done :: k) .normal fr σ :=
  sk_dnoisy ho hq hfl rfl ⟨hok, .inr (.inr ⟨f, args, hc, h⟩)⟩
theorem sk_dg_call {f : FuncId} {args : List AV} {fl : List Nat} {j : Nat} {b : Bool} {gd : Oper} {d : Tmp} (ho : arr[i]? = some ⟨dst, op, ty, pos, aft, some (j, b)⟩) (hj : arr[j]? = some gd) (hd : gd.dst = some d) (hv : fget fr d = .bool b)
    (hq : quiet P op = false) (hfl : floats P arr i done = fl) (hok : opOk P op = true) (hc : aCallee P (aeval fr) σ.m op = some (f, args))
    (h : Tr P f args σ fun v σ' => Redos P n arr (fput n fr dst v) σ' fl ∧ SK P n Q (.draw arr rest (i :: done) :: k) .normal (fput n fr dst v) σ') : SK P n Q (.draw arr (i :: rest) done :: k) .normal fr σ :=
  sk_dnoisy ho hq hfl (by rw [wantedA_some hj hd hv]; simp) ⟨hok, .inr (.inr ⟨f, args, hc, h⟩)⟩
theorem sk_dg_noskip {j : Nat} {b : Bool} {gd : Oper} {d : Tmp} {fl : List Nat} (ho : arr[i]? = some ⟨dst, op, ty, pos, aft, some (j, b)⟩) (hj : arr[j]? = some gd) (hd : gd.dst = some d) (hv : fget fr d = .bool (!b)) (hq : quiet P op = false)
    (hfl : floats P arr i done = fl) (hre : Redos P n arr (fput n fr dst .undef) σ fl)
    (h : SK P n Q (.draw arr rest (i :: done) :: k) .normal (fput n fr dst .undef) σ) : SK P n Q (.draw arr (i :: rest) done :: k) .normal fr σ := by
  simp only [SK, ADraw, ho, hq]
  rw [wantedA_some hj hd hv]
  have key : ∀ j ∈ done, (match arr[j]? with | some x => quiet P x.op | none => false) = true → ((masks arr).getD i 0).testBit j = false → Redo P n arr (fput n fr dst .undef) σ j := by
    intro j hj e1 e2
    refine redos_mem hre ?_
    rw [← hfl]
    unfold floats
    rw [List.mem_filter]
    exact ⟨hj, by rw [e1, e2]; rfl⟩
  cases b <;> exact ⟨key, h⟩
end
end

attribute [irreducible] SK
end Go.Am
