import Derived.Calls
import Derived.Orders
import Derived.Tactics
import Derived.KernelRfl
import Derived.WalkLawsBesides
import Derived.WalkSpells
import Derived.Laws.StructEq
import Derived.Laws.Cells
import Derived.Laws.BytesArg
import Derived.Laws.MakeOwn
import Derived.Laws.IdiomStrings
import Derived.Laws.AppendOwn
set_option linter.all false
namespace Go.Am

/-! Tries with natural numbers as keys. -/
inductive PT (α : Type) where
  | leaf
  | node (v : Option α) (l r : PT α)

def bits : Nat → Nat → List Bool
  | 0, _ => []
  | _ + 1, 0 => []
  | f + 1, m + 1 => Nat.beq (Nat.mod m 2) 1 :: bits f (Nat.div m 2)

def path (n : Nat) : List Bool := bits n n

def PT.getP {α : Type} : PT α → List Bool → Option α
  | .leaf, _ => none
  | .node v _ _, [] => v
  | .node _ l r, b :: p => match b with
    | true => r.getP p
    | false => l.getP p

def PT.setP {α : Type} : List Bool → PT α → Option α → PT α
  | [], .leaf, v => .node v .leaf .leaf
  | [], .node _ l r, v => .node v l r
  | b :: p, .leaf, v => match b with
    | true => .node none .leaf (PT.setP p .leaf v)
    | false => .node none (PT.setP p .leaf v) .leaf
  | b :: p, .node x l r, v => match b with
    | true => .node x l (PT.setP p r v)
    | false => .node x (PT.setP p l v) r

def PT.get {α : Type} (t : PT α) (n : Nat) : Option α := t.getP (path n)
def PT.set {α : Type} (t : PT α) (n : Nat) (v : α) : PT α := PT.setP (path n) t (some v)
def PT.del {α : Type} (t : PT α) (n : Nat) : PT α := PT.setP (path n) t none

theorem bits_fuel : ∀ (f g n : Nat), n ≤ f → n ≤ g → bits f n = bits g n
  | 0, 0, _, _, _ => rfl
  | 0, g + 1, n, h, _ => by obtain rfl : n = 0 := by omega
                            rfl
  | f + 1, 0, n, _, h => by obtain rfl : n = 0 := by omega
                            rfl
  | f + 1, g + 1, 0, _, _ => rfl
  | f + 1, g + 1, m + 1, h1, h2 => by
    simp only [bits]
    rw [bits_fuel f g (Nat.div m 2) (by have : Nat.div m 2 = m / 2 := rfl
                                        omega) (by have : Nat.div m 2 = m / 2 := rfl
                                                   omega)]

theorem bits_inj : ∀ (f n m : Nat), n ≤ f → m ≤ f → bits f n = bits f m → n = m
  | 0, n, m, h1, h2, _ => by omega
  | f + 1, 0, 0, _, _, _ => rfl
  | f + 1, 0, m + 1, _, _, h => by simp [bits] at h
  | f + 1, n + 1, 0, _, _, h => by simp [bits] at h
  | f + 1, n + 1, m + 1, h1, h2, h => by
    simp only [bits, List.cons.injEq] at h
    have e1 : Nat.div n 2 = n / 2 := rfl
    have e2 : Nat.div m 2 = m / 2 := rfl
    have e3 : Nat.mod n 2 = n % 2 := rfl
    have e4 : Nat.mod m 2 = m % 2 := rfl
    have := bits_inj f _ _ (by omega) (by omega) h.2
    have hb := h.1
    rw [Bool.eq_iff_iff, Nat.beq_eq, Nat.beq_eq] at hb
    omega

theorem path_inj {n m : Nat} (h : path n = path m) : n = m := by
  unfold path at h
  rw [bits_fuel n (max n m) n (by omega) (by omega), bits_fuel m (max n m) m (by omega) (by omega)] at h
  exact bits_inj _ _ _ (by omega) (by omega) h

theorem PT.getP_leaf {α : Type} (p : List Bool) : (PT.leaf : PT α).getP p = none := by cases p <;> rfl

theorem PT.getP_setP {α : Type} : ∀ (p q : List Bool) (t : PT α) (v : Option α), (PT.setP p t v).getP q = if p = q then v else t.getP q
  | [], [], .leaf, v => rfl
  | [], [], .node .., v => rfl
  | [], b :: q, .leaf, v => by cases b <;> simp [PT.setP, PT.getP]
  | [], b :: q, .node x l r, v => by cases b <;> simp [PT.setP, PT.getP]
  | b :: p, [], .leaf, v => by cases b <;> simp [PT.setP, PT.getP]
  | b :: p, [], .node x l r, v => by cases b <;> simp [PT.setP, PT.getP]
  | b :: p, c :: q, .leaf, v => by cases b <;> cases c <;> simp [PT.setP, PT.getP, PT.getP_leaf, PT.getP_setP p q]
  | b :: p, c :: q, .node x l r, v => by cases b <;> cases c <;> simp [PT.setP, PT.getP, PT.getP_setP p q]

theorem PT.get_set {α : Type} (t : PT α) (n m : Nat) (v : α) : (t.set n v).get m = if n = m then some v else t.get m := by
  unfold PT.get PT.set
  rw [PT.getP_setP]
  by_cases h : n = m
  · subst h; simp
  · rw [if_neg h, if_neg fun e => h (path_inj e)]
theorem PT.get_del {α : Type} (t : PT α) (n m : Nat) : (t.del n).get m = if n = m then none else t.get m := by
  unfold PT.get PT.del
  rw [PT.getP_setP]
  by_cases h : n = m
  · subst h; simp
  · rw [if_neg h, if_neg fun e => h (path_inj e)]
theorem PT.get_leaf {α : Type} (m : Nat) : (PT.leaf : PT α).get m = none := PT.getP_leaf _

/-! Values, blocks, heaps. -/
inductive AV where
  | bool (b : Bool)
  | int (k : IntKind) (n : Int)
  | str (s : List Nat)
  | nilptr
  | ptr (b o : Nat)
  | nilslice
  | slice (b o n c : Nat) (ex : Bool) (z : Nat)
  | nilmap
  | map (b : Nat)
  | func (fn : Fn) (first captured : List AV)
  | nilFunc
  | iface (t : TypeId) (v : AV)
  | nilIface
  | agg (xs : List AV)
  | tuple (xs : List AV)
  deriving Inhabited

def AV.undef : AV := .tuple []

def bytesOf (s : ByteArray) : List Nat := s.data.toList.map UInt8.toNat

mutual
def AV.ofValue : Value → Option AV
  | .bool b => some (.bool b)
  | .int k n => some (.int k n)
  | .string s => some (.str (bytesOf s))
  | .pointer none => some .nilptr
  | .slice none 0 0 => some .nilslice
  | .map none => some .nilmap
  | .func fn ⟨a⟩ ⟨b⟩ => match AV.ofValues a, AV.ofValues b with
    | some x, some y => some (.func fn x y)
    | _, _ => none
  | .nilFunc => some .nilFunc
  | .iface t v => match AV.ofValue v with
    | some x => some (.iface t x)
    | none => none
  | .nilIface => some .nilIface
  | .agg ⟨a⟩ => match AV.ofValues a with
    | some x => some (.agg x)
    | none => none
  | .tuple ⟨a⟩ => match AV.ofValues a with
    | some x => some (.tuple x)
    | none => none
  | _ => none
def AV.ofValues : List Value → Option (List AV)
  | [] => some []
  | v :: l => match AV.ofValue v, AV.ofValues l with
    | some x, some y => some (x :: y)
    | _, _ => none
end

inductive ABlock where
  | cells (xs : List AV) (ro : Bool) (fz : Nat) (ps : List Nat)
  | map (es : List (AV × AV × Nat)) (clock : Nat)
  | siter (s : List Nat) (pos : Nat)
  deriving Inhabited

structure AHeap where
  m : PT ABlock
  next : Nat

/-- where the blocks lie: the block of the world, the place of the first cell; and how many cells that block of the world has -/
structure Where where
  loc : Nat → Option (Nat × Nat)
  tot : Nat → Nat

instance : CoeFun Where (fun _ => Nat → Option (Nat × Nat)) := ⟨Where.loc⟩

def Where.le (θ θ' : Where) : Prop := ∀ b x, θ b = some x → θ' b = some x ∧ θ'.tot b = θ.tot b

mutual
def VRel (θ : Where) : AV → Value → Prop
  | .bool b, .bool b' => b = b'
  | .int k n, .int k' n' => k = k' ∧ n = n'
  | .str l, .string s => bytesOf s = l
  | .nilptr, .pointer none => True
  | .ptr b o, .pointer (some a) => ∃ cb base, θ b = some (cb, base) ∧ a = ⟨cb, base + o, none⟩
  | .nilslice, .slice none n c => n = 0 ∧ c = 0
  | .slice b o n c ex z, .slice (some a) n' c' => n' = n ∧ n ≤ c' ∧ c ≤ c' ∧ (ex = true → c' = c) ∧ ∃ cb base, θ b = some (cb, base) ∧ base + o + c' * z ≤ θ.tot b ∧ (c' = 0 ∨ a = ⟨cb, base + o, none⟩)
  | .nilmap, .map none => True
  | .map b, .map (some r) => θ b = some (r, 0)
  | .func fn a b, .func fn' a' b' => fn = fn' ∧ VRels θ a a'.toList ∧ VRels θ b b'.toList
  | .nilFunc, .nilFunc => True
  | .iface t v, .iface t' v' => t = t' ∧ VRel θ v v'
  | .nilIface, .nilIface => True
  | .agg xs, .agg cs => VRels θ xs cs.toList
  | .tuple xs, .tuple cs => VRels θ xs cs.toList
  | _, _ => False
def VRels (θ : Where) : List AV → List Value → Prop
  | [], [] => True
  | x :: xs, c :: cs => VRel θ x c ∧ VRels θ xs cs
  | _, _ => False
end

end Go.Am
namespace Go.Am

/-! Operations that change no memory. -/

def beqL : List Nat → List Nat → Bool
  | [], [] => true
  | a :: x, b :: y => match Nat.beq a b with
    | true => beqL x y
    | false => false
  | _, _ => false

def ltL : List Nat → List Nat → Bool
  | _, [] => false
  | [], _ :: _ => true
  | a :: x, b :: y => match Nat.blt a b with
    | true => true
    | false => match Nat.beq a b with
      | true => ltL x y
      | false => false

def intOp (op : BinOp) (k : IntKind) (x y : Int) : Option AV :=
  match op with
  | .add => some (.int k (k.wrap (x + y)))
  | .sub => some (.int k (k.wrap (x - y)))
  | .mul => some (.int k (k.wrap (x * y)))
  | .quo => if y = 0 then none else some (.int k (k.wrap (x.tdiv y)))
  | .rem => if y = 0 then none else some (.int k (x.tmod y))
  | .and => some (.int k (k.wrap (BitVec.ofInt k.bits x &&& BitVec.ofInt k.bits y).toNat))
  | .or => some (.int k (k.wrap (BitVec.ofInt k.bits x ||| BitVec.ofInt k.bits y).toNat))
  | .xor => some (.int k (k.wrap (BitVec.ofInt k.bits x ^^^ BitVec.ofInt k.bits y).toNat))
  | .andNot => some (.int k (k.wrap (BitVec.ofInt k.bits x &&& ~~~BitVec.ofInt k.bits y).toNat))
  | .eql => some (.bool (x == y))
  | .neq => some (.bool (x != y))
  | .lss => some (.bool (decide (x < y)))
  | .leq => some (.bool (decide (x ≤ y)))
  | .gtr => some (.bool (decide (x > y)))
  | .geq => some (.bool (decide (x ≥ y)))
  | _ => none

def shiftOp (op : BinOp) (k : IntKind) (x y : Int) : Option AV :=
  if y < 0 then none else
  match op with
  | .shl => some (.int k (k.wrap (x * 2 ^ min y.toNat k.bits)))
  | .shr => some (.int k (x.fdiv (2 ^ min y.toNat k.bits)))
  | _ => none

def strOp (op : BinOp) (x y : List Nat) : Option AV :=
  match op with
  | .add => if ((x.length + y.length : Nat) : Int) > IntKind.i64.max then none else some (.str (x ++ y))
  | .eql => some (.bool (beqL x y))
  | .neq => some (.bool (!beqL x y))
  | .lss => some (.bool (ltL x y))
  | .leq => some (.bool (ltL x y || beqL x y))
  | .gtr => some (.bool (!(ltL x y || beqL x y)))
  | .geq => some (.bool (!ltL x y))
  | _ => none

def getN : Nat → List AV → Option (List AV)
  | 0, _ => some []
  | n + 1, x :: xs => match getN n xs with
    | some r => some (x :: r)
    | none => none
  | _ + 1, [] => none

def sub (xs : List AV) (o n : Nat) : Option (List AV) := getN n (xs.drop o)

def tyAgg (P : Program) (t : TypeId) : Option Bool :=
  match P.underlying t with
  | some (.struct _) => some true
  | some (.array _ _) => some true
  | some _ => some false
  | none => none

def tySize (P : Program) (t : TypeId) : Option Nat :=
  match P.info? t with
  | some i => some i.size
  | none => none

/-- a part of a value of several cells -/
def aPart (P : Program) (t : TypeId) (xs : List AV) (o : Nat) : Option AV :=
  match tyAgg P t with
  | some true => match tySize P t with
    | some n => match sub xs o n with
      | some r => some (.agg r)
      | none => none
    | none => none
  | some false => xs[o]?
  | none => none

def eqFs (eq : TypeId → AV → AV → Option Bool) (P : Program) (xs ys : List AV) : List Field → Option Bool
  | [] => some true
  | f :: fs => match f.name == "_" with
    | true => eqFs eq P xs ys fs
    | false => match aPart P f.type xs f.offset, aPart P f.type ys f.offset with
      | some a, some b => match eq f.type a b with
        | some true => eqFs eq P xs ys fs
        | some false => some false
        | none => none
      | _, _ => none

def aEq (P : Program) : Nat → TypeId → AV → AV → Option Bool
  | 0, _, _, _ => none
  | d + 1, t, x, y =>
    match P.underlying t, x, y with
    | some .bool, .bool a, .bool b => some (a == b)
    | some (.int _), .int k a, .int k' b => if k = k' then some (a == b) else none
    | some .string, .str a, .str b => some (beqL a b)
    | some (.pointer _), .nilptr, .nilptr => some true
    | some (.pointer _), .nilptr, .ptr _ _ => some false
    | some (.pointer _), .ptr _ _, .nilptr => some false
    | some (.interface _), .nilIface, .nilIface => some true
    | some (.interface _), .nilIface, .iface _ _ => some false
    | some (.interface _), .iface _ _, .nilIface => some false
    | some (.interface _), .iface tx vx, .iface ty vy =>
      if tx ≠ ty then some false else
      match P.info? tx with
      | some i => if i.comparable then aEq P d tx vx vy else none
      | none => none
    | some (.struct fs), .agg xs, .agg ys => match P.stoodInHeld t with
      | true => none
      | false => eqFs (aEq P d) P xs ys fs.toList
    | some (.slice _), .nilslice, .nilslice => some true
    | some (.slice _), .nilslice, .slice .. => some false
    | some (.slice _), .slice .., .nilslice => some false
    | some (.map _ _), .nilmap, .nilmap => some true
    | some (.map _ _), .nilmap, .map _ => some false
    | some (.map _ _), .map _, .nilmap => some false
    | some (.func _ _ _), .nilFunc, .nilFunc => some true
    | some (.func _ _ _), .nilFunc, .func .. => some false
    | some (.func _ _ _), .func .., .nilFunc => some false
    | _, _, _ => none

def isConst : Operand → Bool
  | .const _ => true
  | _ => false

/-- the look ahead of '==' -/
def eqOk (P : Program) (t : TypeId) (x y : Operand) (a b : AV) : Bool :=
  match a, b with
  | .nilIface, .nilIface => isConst x || isConst y
  | .agg _, .agg _ => !P.eqGuardType P.depth t
  | _, _ => true

def aBin (P : Program) (op : BinOp) (t : TypeId) (x y : Operand) (a b : AV) : Option AV :=
  match a, b with
  | .int k m, .int k' n =>
    match op with
    | .shl => shiftOp .shl k m n
    | .shr => shiftOp .shr k m n
    | op => if k = k' then intOp op k m n else none
  | .str m, .str n => strOp op m n
  | a, b =>
    match eqOk P t x y a b with
    | false => none
    | true =>
      match op with
      | .eql => match aEq P 100 t a b with
        | some r => some (.bool r)
        | none => none
      | .neq => match aEq P 100 t a b with
        | some r => some (.bool (!r))
        | none => none
      | _ => none

def aUn (op : UnOp) (x : AV) : Option AV :=
  match op, x with
  | .neg, .int k n => some (.int k (k.wrap (0 - n)))
  | .xor, .int k n => intOp .xor k (if k.signed then -1 else k.max) n
  | .not, .bool b => some (.bool !b)
  | _, _ => none

def aLoad (P : Program) (σ : PT ABlock) (t : TypeId) (p : AV) : Option AV :=
  match p with
  | .ptr b o => match σ.get b with
    | some (.cells xs _ _ _) => aPart P t xs o
    | _ => none
  | _ => none

def bytesAt : Nat → List AV → Option (List Nat)
  | 0, _ => some []
  | n + 1, .int .u8 i :: xs => match bytesAt n xs with
    | some r => some (Nat.mod i.toNat 256 :: r)
    | none => none
  | _ + 1, _ => none

def aConv (P : Program) (σ : PT ABlock) (src dst : TypeId) (x : AV) : Option AV :=
  match P.underlying src, P.underlying dst, x with
  | some _, some (.int k), .int _ n => some (.int k (k.wrap n))
  | some _, some .string, .str s => some (.str s)
  | some _, some .string, .int _ n => some (.str (bytesOf (Utf8.encode n)))
  | some (.slice e), some .string, .nilslice => match P.underlying e with
    | some (.int .u8) => some (.str [])
    | _ => none
  | some (.slice e), some .string, .slice b o n _ _ _ => match P.underlying e with
    | some (.int .u8) => match σ.get b with
      | some (.cells xs _ _ _) => match n with
        | 0 => some (.str [])
        | n => match bytesAt n (xs.drop o) with
          | some r => some (.str r)
          | none => none
      | _ => none
    | _ => none
  | _, _, _ => none

/-- how much may stand in a slice's bound: none: the end -/
def aBound (x : Option AV) (d : Nat) : Option Int :=
  match x with
  | none => some d
  | some (.int _ i) => some i
  | _ => none

def aSlice (P : Program) (σ : PT ABlock) (t : TypeId) (x : AV) (lo hi mx : Option AV) : Option AV :=
  match P.underlying t, x with
  | some .string, .str s => match mx with
    | some _ => none
    | none => match aBound lo 0, aBound hi s.length with
      | some l, some h => if 0 ≤ l ∧ l ≤ h ∧ h ≤ s.length then some (.str ((s.take h.toNat).drop l.toNat)) else none
      | _, _ => none
  | some (.slice e), .nilslice => match mx with
    | some _ => none
    | none => match aBound lo 0, aBound hi 0, tySize P e with
      | some l, some h, some _ => if l = 0 ∧ h = 0 then some .nilslice else none
      | _, _, _ => none
  | some (.slice e), .slice b o n c ex z => match tySize P e with
    | none => none
    | some sz => match Nat.beq sz z with
     | false => none
     | true => match mx with
      | none => match aBound lo 0, aBound hi n with
        | some l, some h => if 0 ≤ l ∧ l ≤ h ∧ (h ≤ c ∨ h ≤ n) then some (.slice b (o + l.toNat * sz) (h - l).toNat (c - l.toNat) ex z) else none
        | _, _ => none
      | some (.int _ m) => match aBound lo 0, aBound hi n with
        | some l, some h => if 0 ≤ l ∧ l ≤ h ∧ h ≤ m ∧ m ≤ c ∧ hi.isSome then some (.slice b (o + l.toNat * sz) (h - l).toNat (m - l).toNat true z) else none
        | _, _ => none
      | _ => none
  | some (.array n e), .ptr b o => match tySize P e, mx with
    | some sz, none => match aBound lo 0, aBound hi n with
      | some l, some h => match σ.get b with
        | some (.cells xs _ _ _) => if 0 ≤ l ∧ l ≤ h ∧ h ≤ n ∧ o + n * sz ≤ xs.length then some (.slice b (o + l.toNat * sz) (h - l).toNat (n - l.toNat) true sz) else none
        | _ => none
      | _, _ => none
    | _, _ => none
  | _, _ => none

def aIndexAddr (P : Program) (t : TypeId) (x i : AV) : Option AV :=
  match i with
  | .int _ i => match P.underlying t, x with
    | some (.array n e), .ptr b o => match tySize P e with
      | some sz => if 0 ≤ i ∧ i < n then some (.ptr b (o + i.toNat * sz)) else none
      | none => none
    | some (.slice e), .slice b o n _ _ z => match tySize P e with
      | some sz => if 0 ≤ i ∧ i < n then some (.ptr b (o + i.toNat * sz)) else none
      | none => none
    | _, _ => none
  | _ => none

def aIndex (P : Program) (t : TypeId) (x i : AV) : Option AV :=
  match i with
  | .int _ i => match P.underlying t, x with
    | some (.array n e), .agg cs => match tySize P e with
      | some sz => if 0 ≤ i ∧ i < n then aPart P e cs (i.toNat * sz) else none
      | none => none
    | some .string, .str s => if 0 ≤ i then match s[i.toNat]? with
      | some b => some (.int .u8 b)
      | none => none
      else none
    | _, _ => none
  | _ => none

def aFieldAddr (P : Program) (s : TypeId) (x : AV) (f : Nat) : Option AV :=
  match x with
  | .ptr b o => match P.underlying s with
    | some (.struct fs) => match fs[f]? with
      | some fd => match tySize P fd.type with
        | some 0 => none
        | some _ => some (.ptr b (o + fd.offset))
        | none => none
      | none => none
    | _ => none
  | _ => none

def aField (P : Program) (t : TypeId) (x : AV) (f : Nat) : Option AV :=
  match x with
  | .agg xs => match P.underlying t with
    | some (.struct fs) => match fs[f]? with
      | some fd => aPart P fd.type xs fd.offset
      | none => none
    | _ => none
  | _ => none

def aCells : AV → List AV
  | .agg xs => xs
  | v => [v]

/-- 'xs' with 'ys' laid from 'o' on -/
def lay : List AV → Nat → List AV → Option (List AV)
  | xs, 0, [] => some xs
  | _ :: xs, 0, y :: ys => match lay xs 0 ys with
    | some r => some (y :: r)
    | none => none
  | x :: xs, o + 1, ys => match lay xs o ys with
    | some r => some (x :: r)
    | none => none
  | [], 0, _ :: _ => none
  | [], _ + 1, _ => none

def aFill (place : Nat → Option (Nat × Nat)) : List (Nat × AV) → List AV → Option (List AV)
  | [], xs => some xs
  | (i, v) :: rest, xs => match place i with
    | none => none
    | some (off, size) => match Nat.beq (aCells v).length size with
      | true => match lay xs off (aCells v) with
        | some r => aFill place rest r
        | none => none
      | false => none

def fieldPlaces (P : Program) : List Field → Option (List (Nat × Nat))
  | [] => some []
  | f :: fs => match tySize P f.type, fieldPlaces P fs with
    | some n, some r => some ((f.offset, n) :: r)
    | _, _ => none

def zeroOf (P : Program) (t : TypeId) : Option AV :=
  match P.info? t with
  | some i => match i.zero with
    | some v => AV.ofValue v
    | none => none
  | none => none

def aBuild (P : Program) (t : TypeId) (parts : List (Nat × AV)) : Option AV :=
  match zeroOf P t, P.underlying t with
  | some z, some (.struct fs) => match fieldPlaces P fs.toList with
    | some pl => match aFill (pl[·]?) parts (aCells z) with
      | some r => some (.agg r)
      | none => none
    | none => none
  | some z, some (.array _ e) => match tySize P e with
    | some sz => match aFill (fun i => some (i * sz, sz)) parts (aCells z) with
      | some r => some (.agg r)
      | none => none
    | none => none
  | _, _ => none

def aMin2 (a b : AV) : Option AV :=
  match a, b with
  | .int k x, .int _ y => some (.int k (if y < x then y else x))
  | _, _ => none
def aMax2 (a b : AV) : Option AV :=
  match a, b with
  | .int k x, .int _ y => some (.int k (if y > x then y else x))
  | _, _ => none
def aFold (f : AV → AV → Option AV) : AV → List AV → Option AV
  | x, [] => some x
  | x, y :: ys => match f x y with
    | some r => aFold f r ys
    | none => none

def aLen (P : Program) (σ : PT ABlock) (t : TypeId) (x : AV) : Option AV :=
  match P.underlying t, x with
  | some .string, .str s => some (.int .i64 s.length)
  | some (.array n _), _ => some (.int .i64 n)
  | some (.slice _), .nilslice => some (.int .i64 0)
  | some (.slice _), .slice _ _ n _ _ _ => some (.int .i64 n)
  | some (.map _ _), .nilmap => some (.int .i64 0)
  | some (.map _ _), .map b => match σ.get b with
    | some (.map es _) => some (.int .i64 es.length)
    | _ => none
  | _, _ => none

def aCap (P : Program) (t : TypeId) (x : AV) : Option AV :=
  match P.underlying t, x with
  | some (.slice _), .nilslice => some (.int .i64 0)
  | some (.slice _), .slice _ _ _ c true _ => some (.int .i64 c)
  | _, _ => none

def optMap (ρ : Operand → AV) : Option Operand → Option AV
  | none => none
  | some x => some (ρ x)

def mapOps (ρ : Operand → AV) : List Operand → List AV
  | [] => []
  | x :: l => ρ x :: mapOps ρ l
def mapParts (ρ : Operand → AV) : List (Nat × Operand) → List (Nat × AV)
  | [] => []
  | (i, x) :: l => (i, ρ x) :: mapParts ρ l

def rdBuiltin (P : Program) (σ : PT ABlock) (b : Builtin) (ts : List TypeId) (xs : List AV) : Option AV :=
  match b, ts, xs with
  | .len, t :: _, x :: _ => aLen P σ t x
  | .cap, t :: _, x :: _ => aCap P t x
  | .min, _, x :: l => aFold aMin2 x l
  | .max, _, x :: l => aFold aMax2 x l
  | _, _, _ => none

def rd (P : Program) (ρ : Operand → AV) (σ : PT ABlock) (op : Op) : Option AV :=
  match op with
  | .move x => some (ρ x)
  | .assign x => some (ρ x)
  | .pick c a b => match ρ c with
    | .bool true => some (ρ a)
    | .bool false => some (ρ b)
    | _ => none
  | .build t parts => aBuild P t (mapParts ρ parts.toList)
  | .load t a => aLoad P σ t (ρ a)
  | .nilCheck x => match ρ x with
    | .nilptr => none
    | .nilIface => none
    | .nilFunc => none
    | .func (.method _) _ _ => none
    | v => some v
  | .binOp op t x y _ => aBin P op t x y (ρ x) (ρ y)
  | .unOp op _ x => aUn op (ρ x)
  | .convert s d x => aConv P σ s d (ρ x)
  | .makeInterface t x => match P.underlying t with
    | some (.interface _) => none
    | some _ => some (.iface t (ρ x))
    | none => none
  | .makeFunc fn a b => some (.func fn (mapOps ρ a.toList) (mapOps ρ b.toList))
  | .slice t x lo hi mx => aSlice P σ t (ρ x) (optMap ρ lo) (optMap ρ hi) (optMap ρ mx)
  | .fieldAddr s x f => aFieldAddr P s (ρ x) f
  | .field t x f => aField P t (ρ x) f
  | .indexAddr t x i => aIndexAddr P t (ρ x) (ρ i)
  | .index t x i => aIndex P t (ρ x) (ρ i)
  | .extract t i => match ρ t with
    | .tuple xs => xs[i]?
    | _ => none
  | .call c => match c.callee with
    | .builtin b => rdBuiltin P σ b c.argTypes.toList (mapOps ρ c.args.toList)
    | _ => none
  | _ => none

end Go.Am
namespace Go.Am

def ABlock.ro : ABlock → Bool
  | .cells _ ro _ _ => ro
  | _ => false
def ABlock.ps : ABlock → List Nat
  | .cells _ _ _ ps => ps
  | _ => []

def ERels (θ : Where) : List (AV × AV × Nat) → List MapEntry → Prop
  | [], [] => True
  | x :: xs, c :: cs => (VRel θ x.1 c.key ∧ VRel θ x.2.1 c.val ∧ x.2.2 = c.born) ∧ ERels θ xs cs
  | _, _ => False

def BRel (θ : Where) (blk : ABlock) (o : Option Obj) (base tot : Nat) : Prop :=
  match blk with
  | .cells xs ro fz _ => ∃ c el lo hi, o = some (.cells c el (lo, hi)) ∧ c.size = tot ∧ base + xs.length ≤ tot ∧ (∀ i v, xs[i]? = some v → ∃ cv, c[base + i]? = some cv ∧ VRel θ v cv) ∧
      (ro = false → ∀ i, fz ≤ i → base + i < tot → ¬ (lo ≤ base + i ∧ base + i < hi))
  | .map es clock => base = 0 ∧ ∃ ces, o = some (.map ces clock) ∧ ERels θ es ces.toList
  | .siter s pos => base = 0 ∧ ∃ bs, o = some (.stringIter bs pos) ∧ bytesOf bs = s

def MRel (θ : Where) (σ : PT ABlock) (h : Array Obj) : Prop :=
  ∀ b blk cb base, σ.get b = some blk → θ b = some (cb, base) → BRel θ blk h[cb]? base (θ.tot b)

theorem vrels_len {θ : Where} : ∀ {xs : List AV} {cs : List Value}, VRels θ xs cs → xs.length = cs.length
  | [], [], _ => rfl
  | x :: xs, c :: cs, h => by simp only [VRels] at h; simp [vrels_len h.2]
  | [], _ :: _, h => by simp [VRels] at h
  | _ :: _, [], h => by simp [VRels] at h

theorem vrels_get {θ : Where} : ∀ {xs : List AV} {cs : List Value} {i : Nat} {x : AV}, VRels θ xs cs → xs[i]? = some x → ∃ c, cs[i]? = some c ∧ VRel θ x c
  | x :: xs, c :: cs, 0, y, h, e => by simp only [VRels] at h; simp at e; subst e; exact ⟨c, rfl, h.1⟩
  | x :: xs, c :: cs, i + 1, y, h, e => by
    simp only [VRels] at h
    have e' : xs[i]? = some y := by simpa using e
    simpa using vrels_get (i := i) h.2 e'
  | [], [], _, _, _, e => by simp at e
  | [], _ :: _, _, _, h, _ => by simp [VRels] at h
  | _ :: _, [], _, _, h, _ => by simp [VRels] at h

theorem vrels_of {θ : Where} : ∀ {xs : List AV} {cs : List Value}, xs.length = cs.length → (∀ (i : Nat) (x : AV) (c : Value), xs[i]? = some x → cs[i]? = some c → VRel θ x c) → VRels θ xs cs
  | [], [], _, _ => by simp [VRels]
  | x :: xs, c :: cs, hl, h => by
    simp only [VRels]
    exact ⟨h 0 x c rfl rfl, vrels_of (by simpa using hl) fun i y d hy hd => h (i + 1) y d (by simpa using hy) (by simpa using hd)⟩
  | [], _ :: _, hl, _ => by simp at hl
  | _ :: _, [], hl, _ => by simp at hl

theorem vrels_append {θ : Where} : ∀ {xs : List AV} {cs : List Value} {ys : List AV} {ds : List Value}, VRels θ xs cs → VRels θ ys ds → VRels θ (xs ++ ys) (cs ++ ds)
  | [], [], _, _, _, h => h
  | x :: xs, c :: cs, _, _, h, k => by simp only [VRels, List.cons_append] at h ⊢; exact ⟨h.1, vrels_append h.2 k⟩
  | [], _ :: _, _, _, h, _ => by simp [VRels] at h
  | _ :: _, [], _, _, h, _ => by simp [VRels] at h

theorem getN_eq : ∀ {n : Nat} {xs r : List AV}, getN n xs = some r → r = xs.take n ∧ n ≤ xs.length
  | 0, xs, r, h => by simp [getN] at h; simp [h]
  | n + 1, x :: xs, r, h => by
    simp only [getN] at h
    split at h
    · rename_i s hs
      have := getN_eq hs
      simp at h; subst h
      simp [this.1.symm]; exact this.2
    · simp at h
  | n + 1, [], r, h => by simp [getN] at h

theorem sub_eq {xs r : List AV} {o n : Nat} (h : sub xs o n = some r) : r = (xs.drop o).take n ∧ o + n ≤ xs.length ∨ (n = 0 ∧ r = []) := by
  have := getN_eq h
  rw [List.length_drop] at this
  rcases Nat.eq_zero_or_pos n with h0 | h0
  · subst h0; right; simp at this; exact ⟨rfl, this⟩
  · left; exact ⟨this.1, by omega⟩

theorem sub_some {xs r : List AV} {o n : Nat} (h : sub xs o n = some r) : r.length = n ∧ ∀ j, j < n → r[j]? = xs[o + j]? := by
  rcases sub_eq h with ⟨rfl, hl⟩ | ⟨rfl, rfl⟩
  · refine ⟨by simp; omega, fun j hj => ?_⟩
    simp [List.getElem?_take, hj]
  · exact ⟨rfl, fun j hj => by omega⟩

theorem bytesOf_length (s : ByteArray) : (bytesOf s).length = s.size := by unfold bytesOf; simp

theorem toList_bytes (s : ByteArray) : s.toList = s.data.toList := ByteArray.toList_eq s

theorem beqL_iff : ∀ (a b : List Nat), beqL a b = true ↔ a = b
  | [], [] => by simp [beqL]
  | [], _ :: _ => by simp [beqL]
  | _ :: _, [] => by simp [beqL]
  | x :: a, y :: b => by
    have ih := beqL_iff a b
    simp only [beqL]
    cases h : Nat.beq x y
    · have : x ≠ y := fun e => by subst e; simp at h
      simp [this]
    · have : x = y := Nat.eq_of_beq_eq_true h
      simp only [this, List.cons.injEq, true_and]
      exact ih
theorem beqL_eq (a b : List Nat) : beqL a b = decide (a = b) := by
  rw [Bool.eq_iff_iff, beqL_iff, decide_eq_true_eq]

theorem u8_inj {a b : UInt8} (h : a.toNat = b.toNat) : a = b := UInt8.toNat_inj.mp h

theorem map_inj {l m : List UInt8} (h : l.map UInt8.toNat = m.map UInt8.toNat) : l = m := by
  induction l generalizing m with
  | nil => cases m <;> simp_all
  | cons a l ih =>
    cases m with
    | nil => simp at h
    | cons b m =>
      simp only [List.map_cons, List.cons.injEq] at h
      rw [u8_inj h.1, ih h.2]

theorem beqL_bytes (x y : ByteArray) : beqL (bytesOf x) (bytesOf y) = (x.toList == y.toList) := by
  rw [toList_bytes, toList_bytes, Bool.eq_iff_iff, beqL_iff, beq_iff_eq]
  unfold bytesOf
  exact ⟨map_inj, fun h => by rw [h]⟩

theorem ltL_bytes : ∀ (x y : List UInt8), ltL (x.map UInt8.toNat) (y.map UInt8.toNat) = Op.bytesLess x y
  | [], [] => rfl
  | _ :: _, [] => rfl
  | [], _ :: _ => rfl
  | a :: x, b :: y => by
    simp only [List.map_cons, ltL, Op.bytesLess]
    cases h : Nat.blt a.toNat b.toNat
    · have h1 : ¬ a < b := by
        rw [UInt8.lt_iff_toNat_lt]
        intro hlt
        have : Nat.blt a.toNat b.toNat = true := by simpa [Nat.blt_eq] using hlt
        rw [this] at h; simp at h
      cases h2 : Nat.beq a.toNat b.toNat
      · have : a ≠ b := fun e => by subst e; simp at h2
        simp [h1, this]
      · have : a = b := u8_inj (Nat.eq_of_beq_eq_true h2)
        subst this
        simp [h1, ltL_bytes x y]
    · have : a < b := by
        rw [UInt8.lt_iff_toNat_lt]
        simpa [Nat.blt_eq] using h
      simp [this]

theorem ltL_bytesOf (x y : ByteArray) : ltL (bytesOf x) (bytesOf y) = Op.bytesLess x.toList y.toList := by
  rw [toList_bytes, toList_bytes]; exact ltL_bytes _ _

/-- 'run' gives a value that is related, in the same world -/
def Gives (θ : Where) (P : Program) (w : World) (s : Sem Value) (v : AV) : Prop := ∃ cv, s.run P w = .ok cv w ∧ VRel θ v cv

theorem vrel_bool {θ : Where} {b : Bool} {c : Value} : VRel θ (.bool b) c ↔ c = .bool b := by
  cases c <;> simp [VRel, eq_comm]
theorem vrel_int {θ : Where} {k : IntKind} {n : Int} {c : Value} : VRel θ (.int k n) c ↔ c = .int k n := by
  cases c <;> simp [VRel, eq_comm]
theorem vrel_str {θ : Where} {l : List Nat} {c : Value} : VRel θ (.str l) c ↔ ∃ s, c = .string s ∧ bytesOf s = l := by
  cases c <;> simp [VRel]
theorem vrel_nilptr {θ : Where} {c : Value} : VRel θ .nilptr c ↔ c = .pointer none := by
  cases c <;> simp [VRel]
  rename_i a; cases a <;> simp [VRel]
theorem vrel_ptr {θ : Where} {b o : Nat} {c : Value} : VRel θ (.ptr b o) c ↔ ∃ cb base, θ b = some (cb, base) ∧ c = .pointer (some ⟨cb, base + o, none⟩) := by
  cases c <;> simp [VRel]
  rename_i a; cases a <;> simp [VRel]
theorem vrel_nilslice {θ : Where} {c : Value} : VRel θ .nilslice c ↔ c = .slice none 0 0 := by
  cases c <;> simp [VRel]
  rename_i a _ _; cases a <;> simp [VRel]
theorem vrel_slice {θ : Where} {b o n k : Nat} {ex : Bool} {z : Nat} {c : Value} : VRel θ (.slice b o n k ex z) c ↔
    ∃ a c' cb base, c = .slice (some a) n c' ∧ n ≤ c' ∧ k ≤ c' ∧ (ex = true → c' = k) ∧ θ b = some (cb, base) ∧ base + o + c' * z ≤ θ.tot b ∧ (c' = 0 ∨ a = ⟨cb, base + o, none⟩) := by
  cases c <;> simp [VRel]
  rename_i a n' c'
  cases a with
  | none => simp [VRel]
  | some a =>
    simp only [VRel, Option.some.injEq]
    constructor
    · rintro ⟨rfl, h1, h2, h3, cb, base, h4, h6, h5⟩
      exact ⟨a, c', ⟨rfl, rfl, rfl⟩, h1, h2, h3, cb, base, h4, h6, h5⟩
    · rintro ⟨a, c', ⟨rfl, rfl, rfl⟩, h1, h2, h3, cb, base, h4, h6, h5⟩
      exact ⟨rfl, h1, h2, h3, cb, base, h4, h6, h5⟩
theorem vrel_nilmap {θ : Where} {c : Value} : VRel θ .nilmap c ↔ c = .map none := by
  cases c <;> simp [VRel]
  rename_i a; cases a <;> simp [VRel]
theorem vrel_map {θ : Where} {b : Nat} {c : Value} : VRel θ (.map b) c ↔ ∃ r, θ b = some (r, 0) ∧ c = .map (some r) := by
  cases c <;> simp [VRel]
  rename_i a; cases a <;> simp [VRel]
theorem vrel_func {θ : Where} {fn : Fn} {a b : List AV} {c : Value} : VRel θ (.func fn a b) c ↔ ∃ a' b', c = .func fn a' b' ∧ VRels θ a a'.toList ∧ VRels θ b b'.toList := by
  cases c <;> simp [VRel]
  rename_i f x y
  constructor
  · rintro ⟨rfl, h1, h2⟩; exact ⟨_, _, ⟨rfl, rfl, rfl⟩, h1, h2⟩
  · rintro ⟨_, _, ⟨rfl, rfl, rfl⟩, h1, h2⟩; exact ⟨rfl, h1, h2⟩
theorem vrel_nilFunc {θ : Where} {c : Value} : VRel θ .nilFunc c ↔ c = .nilFunc := by
  cases c <;> simp [VRel]
theorem vrel_iface {θ : Where} {t : TypeId} {v : AV} {c : Value} : VRel θ (.iface t v) c ↔ ∃ cv, c = .iface t cv ∧ VRel θ v cv := by
  cases c <;> simp [VRel]
  rename_i f x
  constructor
  · rintro ⟨rfl, h1⟩; exact ⟨_, ⟨rfl, rfl⟩, h1⟩
  · rintro ⟨_, ⟨rfl, rfl⟩, h1⟩; exact ⟨rfl, h1⟩
theorem vrel_nilIface {θ : Where} {c : Value} : VRel θ .nilIface c ↔ c = .nilIface := by
  cases c <;> simp [VRel]
theorem vrel_agg {θ : Where} {xs : List AV} {c : Value} : VRel θ (.agg xs) c ↔ ∃ cs, c = .agg cs ∧ VRels θ xs cs.toList := by
  cases c <;> simp [VRel]
theorem vrel_tuple {θ : Where} {xs : List AV} {c : Value} : VRel θ (.tuple xs) c ↔ ∃ cs, c = .tuple cs ∧ VRels θ xs cs.toList := by
  cases c <;> simp [VRel]

theorem vrel_undef {θ : Where} : VRel θ .undef undef := by simp [AV.undef, undef, VRel, VRels]

mutual
theorem VRel.mono {θ θ' : Where} (h : θ.le θ') : ∀ (v : AV) (c : Value), VRel θ v c → VRel θ' v c
  | .bool _, c, r => by rw [vrel_bool] at r ⊢; exact r
  | .int _ _, c, r => by rw [vrel_int] at r ⊢; exact r
  | .str _, c, r => by rw [vrel_str] at r ⊢; exact r
  | .nilptr, c, r => by rw [vrel_nilptr] at r ⊢; exact r
  | .ptr b o, c, r => by
    rw [vrel_ptr] at r ⊢
    obtain ⟨cb, base, h1, h2⟩ := r
    exact ⟨cb, base, (h _ _ h1).1, h2⟩
  | .nilslice, c, r => by rw [vrel_nilslice] at r ⊢; exact r
  | .slice .., c, r => by
    rw [vrel_slice] at r ⊢
    obtain ⟨a, c', cb, base, h1, h2, h3, h4, h5, h7, h6⟩ := r
    exact ⟨a, c', cb, base, h1, h2, h3, h4, (h _ _ h5).1, by rw [(h _ _ h5).2]; exact h7, h6⟩
  | .nilmap, c, r => by rw [vrel_nilmap] at r ⊢; exact r
  | .map _, c, r => by
    rw [vrel_map] at r ⊢
    obtain ⟨cb, h1, h2⟩ := r
    exact ⟨cb, (h _ _ h1).1, h2⟩
  | .func fn a b, c, r => by
    rw [vrel_func] at r ⊢
    obtain ⟨a', b', h1, h2, h3⟩ := r
    exact ⟨a', b', h1, VRels.mono h a _ h2, VRels.mono h b _ h3⟩
  | .nilFunc, c, r => by rw [vrel_nilFunc] at r ⊢; exact r
  | .iface t v, c, r => by
    rw [vrel_iface] at r ⊢
    obtain ⟨cv, h1, h2⟩ := r
    exact ⟨cv, h1, VRel.mono h v _ h2⟩
  | .nilIface, c, r => by rw [vrel_nilIface] at r ⊢; exact r
  | .agg xs, c, r => by
    rw [vrel_agg] at r ⊢
    obtain ⟨cs, h1, h2⟩ := r
    exact ⟨cs, h1, VRels.mono h xs _ h2⟩
  | .tuple xs, c, r => by
    rw [vrel_tuple] at r ⊢
    obtain ⟨cs, h1, h2⟩ := r
    exact ⟨cs, h1, VRels.mono h xs _ h2⟩
theorem VRels.mono {θ θ' : Where} (h : θ.le θ') : ∀ (xs : List AV) (cs : List Value), VRels θ xs cs → VRels θ' xs cs
  | [], [], r => by simp [VRels]
  | x :: xs, c :: cs, r => by simp only [VRels] at r ⊢; exact ⟨VRel.mono h x c r.1, VRels.mono h xs cs r.2⟩
  | [], _ :: _, r => by simp [VRels] at r
  | _ :: _, [], r => by simp [VRels] at r
end

end Go.Am
namespace Go.Am
variable {θ : Where} {P : Program} {w : World}

theorem gives_of {s : Sem Value} {v : AV} {cv : Value} (h : s.run P w = .ok cv w) (r : VRel θ v cv) : Gives θ P w s v := ⟨cv, h, r⟩

theorem eqGuard_int (op : BinOp) (t : TypeId) (x y : Operand) (k k' : IntKind) (m n : Int) : (eqGuard op t x y (.int k m) (.int k' n)).run P w = .ok () w := by
  cases op <;> simp [eqGuard]
theorem eqGuard_str (op : BinOp) (t : TypeId) (x y : Operand) (m n : ByteArray) : (eqGuard op t x y (.string m) (.string n)).run P w = .ok () w := by
  cases op <;> simp [eqGuard]

theorem intOp_sound {op : BinOp} {k : IntKind} {m n : Int} {v : AV} (h : intOp op k m n = some v) (t : TypeId) :
    Gives θ P w (binOp op t (.int k m) (.int k n)) v := by
  cases op <;> simp only [intOp] at h
  case quo =>
    split at h
    · simp at h
    · rename_i h0
      simp at h; subst h
      exact ⟨_, by simp [binOp, Op.intDiv, h0]; rfl, by simp [vrel_int]⟩
  case rem =>
    split at h
    · simp at h
    · rename_i h0
      simp at h; subst h
      exact ⟨_, by simp [binOp, Op.intDiv, h0]; rfl, by simp [vrel_int]⟩
  all_goals first
    | (simp at h; done)
    | (simp only [Option.some.injEq] at h; subst h
       exact ⟨_, by simp [binOp, Op.intArith, Op.intBits, Op.intCmp]; rfl, by simp [vrel_int, vrel_bool]⟩)

theorem shiftOp_sound {op : BinOp} {k k' : IntKind} {m n : Int} {v : AV} (h : shiftOp op k m n = some v) (t : TypeId) :
    Gives θ P w (binOp op t (.int k m) (.int k' n)) v := by
  unfold shiftOp at h
  split at h
  · simp at h
  · rename_i h0
    cases op <;> simp at h
    all_goals
      subst h
      exact ⟨_, by simp only [binOp, Op.shift]; rw [if_neg h0]; rfl, by simp [vrel_int]⟩

theorem strOp_sound {op : BinOp} {m n : ByteArray} {v : AV} (h : strOp op (bytesOf m) (bytesOf n) = some v) (t : TypeId) :
    Gives θ P w (binOp op t (.string m) (.string n)) v := by
  cases op <;> simp only [strOp, bytesOf_length, beqL_bytes, ltL_bytesOf] at h
  case add =>
    split at h
    · simp at h
    · rename_i h0
      simp at h; subst h
      refine ⟨.string (m ++ n), ?_, ?_⟩
      · simp only [binOp, Op.stringOp]
        rw [if_neg h0]; rfl
      · rw [vrel_str]; exact ⟨_, rfl, by simp [bytesOf]⟩
  all_goals first
    | (simp at h; done)
    | (simp only [Option.some.injEq] at h; subst h
       exact ⟨_, by simp only [binOp, Op.stringOp]; rfl, by simp [vrel_bool]⟩)

theorem tySize_run {t : TypeId} {n : Nat} (h : tySize P t = some n) : (sizeOf t).run P w = .ok n w := by
  unfold tySize at h
  split at h
  · rename_i i hi
    simp at h; subst h
    simp [sizeOf, typeInfo, hi]
  · simp at h

theorem tyAgg_run {t : TypeId} {b : Bool} (h : tyAgg P t = some b) : (isAgg t).run P w = .ok b w := by
  unfold tyAgg at h
  split at h
  · rename_i hu; simp at h; subst h; simp [isAgg, run_underlying hu]
  · rename_i hu; simp at h; subst h; simp [isAgg, run_underlying hu]
  · rename_i d h1 h2 hu
    simp at h; subst h
    simp only [isAgg, Sem.run_bind, run_underlying hu, Result.andThen_ok]
    cases d <;> first | rfl | simp_all
  · simp at h

/-- a part of related cells -/
theorem aPart_sound {t : TypeId} {xs : List AV} {o : Nat} {v : AV} {cs : Array Value} (h : aPart P t xs o = some v) (r : VRels θ xs cs.toList) :
    Gives θ P w (part t cs o) v := by
  unfold aPart at h
  split at h
  · rename_i ha
    split at h
    · rename_i n hn
      split at h
      · rename_i s hs
        simp at h; subst h
        refine ⟨.agg (cs.extract o (o + n)), by simp [part, tyAgg_run ha, tySize_run hn], ?_⟩
        rw [vrel_agg]
        refine ⟨_, rfl, ?_⟩
        obtain ⟨hl, hg⟩ := sub_some hs
        have hlen := vrels_len r
        rcases sub_eq hs with ⟨_, hb⟩ | ⟨hn0, hs0⟩
        · refine vrels_of (by simp at hlen ⊢; omega) fun i x c hx hc => ?_
          have hi : i < n := by
            rcases Nat.lt_or_ge i n with h' | h'
            · exact h'
            · rw [List.getElem?_eq_none (by omega)] at hx; simp at hx
          rw [hg i hi] at hx
          obtain ⟨c', hc', hr⟩ := vrels_get r hx
          have : c = c' := by
            have h1 : (cs.extract o (o + n)).toList[i]? = cs[o + i]? := by
              rw [Array.getElem?_toList, Array.getElem?_extract]
              split
              · rfl
              · rename_i hh; exfalso; apply hh; simp at hlen; omega
            rw [h1] at hc
            rw [Array.getElem?_toList] at hc'
            rw [hc] at hc'; simpa using hc'
          rw [this]; exact hr
        · subst hn0; subst hs0; simp [VRels]
      · simp at h
    · simp at h
  · rename_i ha
    obtain ⟨c, hc, hr⟩ := vrels_get r h
    rw [Array.getElem?_toList] at hc
    exact ⟨c, by simp [part, tyAgg_run ha, hc], hr⟩
  · simp at h

theorem aPart_run {t : TypeId} {xs : List AV} {o : Nat} {v : AV} {cs : Array Value} (h : aPart P t xs o = some v) (r : VRels θ xs cs.toList) :
    ∃ cv, (part t cs o).run P w = .ok cv w ∧ VRel θ v cv := aPart_sound h r

theorem aEq_sound : ∀ (d : Nat) (t : TypeId) (x y : AV) (r : Bool) (cx cy : Value), aEq P d t x y = some r → VRel θ x cx → VRel θ y cy →
    ∀ e, d ≤ e → (Op.equalIn e t cx cy).run P w = .ok r w := by
  intro d
  induction d with
  | zero => intro t x y r cx cy h; simp [aEq] at h
  | succ d ihd =>
    intro t x y r cx cy h hx hy e he
    obtain ⟨e, rfl⟩ : ∃ k, e = k + 1 := ⟨e - 1, by omega⟩
    have ih := fun t x y r cx cy h hx hy => ihd t x y r cx cy h hx hy e (by omega)
    clear ihd
    unfold aEq at h
    split at h
    case h_1 hu => rw [vrel_bool] at hx hy; subst hx; subst hy; simp at h; simp [Op.equalIn, run_underlying hu, h]
    case h_2 hu =>
      rw [vrel_int] at hx hy; subst hx; subst hy
      split at h
      · rename_i hk; simp at h; simp [Op.equalIn, run_underlying hu, hk, h]
      · simp at h
    case h_3 hu =>
      rw [vrel_str] at hx hy
      obtain ⟨sx, rfl, rfl⟩ := hx
      obtain ⟨sy, rfl, rfl⟩ := hy
      simp at h
      rw [beqL_bytes, ← beq_toListBytes] at h
      simp [Op.equalIn, run_underlying hu, h]
    case h_4 hu => rw [vrel_nilptr] at hx hy; subst hx; subst hy; simp at h; simp [Op.equalIn, run_underlying hu, h]
    case h_5 hu =>
      rw [vrel_nilptr] at hx; rw [vrel_ptr] at hy
      obtain ⟨_, _, _, rfl⟩ := hy
      subst hx; simp at h; simp [Op.equalIn, run_underlying hu, h]
    case h_6 hu =>
      rw [vrel_nilptr] at hy; rw [vrel_ptr] at hx
      obtain ⟨_, _, _, rfl⟩ := hx
      subst hy; simp at h; simp [Op.equalIn, run_underlying hu, h]
    case h_7 hu => rw [vrel_nilIface] at hx hy; subst hx; subst hy; simp at h; simp [Op.equalIn, run_underlying hu, h]
    case h_8 hu =>
      rw [vrel_nilIface] at hx; rw [vrel_iface] at hy
      obtain ⟨_, rfl, _⟩ := hy
      subst hx; simp at h; simp [Op.equalIn, run_underlying hu, h]
    case h_9 hu =>
      rw [vrel_nilIface] at hy; rw [vrel_iface] at hx
      obtain ⟨_, rfl, _⟩ := hx
      subst hy; simp at h; simp [Op.equalIn, run_underlying hu, h]
    case h_10 tx vx ty vy hu =>
      rw [vrel_iface] at hx hy
      obtain ⟨cx, rfl, hx⟩ := hx
      obtain ⟨cy, rfl, hy⟩ := hy
      split at h
      · rename_i hne; simp at h; simp [Op.equalIn, run_underlying hu, hne, h]
      · rename_i he'
        simp at he'
        split at h
        · rename_i i hi
          split at h
          · rename_i hc
            have := ih _ _ _ _ _ _ h hx hy
            simp [Op.equalIn, run_underlying hu, he', typeInfo, he' ▸ hi, hc]
            rw [he'] at this; exact this
          · simp at h
        · simp at h
    case h_11 fs xs ys hu =>
      rw [vrel_agg] at hx hy
      obtain ⟨cs, rfl, hx⟩ := hx
      obtain ⟨ds, rfl, hy⟩ := hy
      split at h
      · simp at h
      · rename_i hp
        have hfs : P.fieldsOf t = fs := by unfold Program.fieldsOf; rw [hu]
        rw [run_equalIn_struct w e t cs ds (by rw [hfs]; exact hu) hp, hfs]
        clear hu hfs
        generalize fs.toList = l at h ⊢
        induction l with
        | nil => simp [eqFs] at h; simp [Op.eqFields, h]
        | cons f l il =>
          simp only [eqFs] at h
          split at h
          · rename_i hn
            have hn' : f.name = "_" := by simpa using hn
            simp only [Op.eqFields, hn', ne_eq, not_true_eq_false, if_false]
            exact il h
          · rename_i hn
            have hn' : f.name ≠ "_" := by simpa using hn
            split at h
            · rename_i a b ha hb
              obtain ⟨ca, hca, hra⟩ := aPart_run (w := w) ha hx
              obtain ⟨cb, hcb, hrb⟩ := aPart_run (w := w) hb hy
              simp only [Op.eqFields, hn', ne_eq, not_false_eq_true, if_true, Sem.run_bind, hca, hcb, Result.andThen_ok]
              split at h
              · rename_i ht
                rw [ih _ _ _ _ _ _ ht hra hrb]
                simpa using il h
              · rename_i ht
                rw [ih _ _ _ _ _ _ ht hra hrb]
                simp at h; simp [h]
              · simp at h
            · simp at h
    case h_12 hu => rw [vrel_nilslice] at hx hy; subst hx; subst hy; simp at h; simp [Op.equalIn, run_underlying hu, h]
    case h_13 hu =>
      rw [vrel_nilslice] at hx; rw [vrel_slice] at hy
      obtain ⟨_, _, _, _, rfl, _⟩ := hy
      subst hx; simp at h; simp [Op.equalIn, run_underlying hu, h]
    case h_14 hu =>
      rw [vrel_nilslice] at hy; rw [vrel_slice] at hx
      obtain ⟨_, _, _, _, rfl, _⟩ := hx
      subst hy; simp at h; simp [Op.equalIn, run_underlying hu, h]
    case h_15 hu => rw [vrel_nilmap] at hx hy; subst hx; subst hy; simp at h; simp [Op.equalIn, run_underlying hu, h]
    case h_16 hu =>
      rw [vrel_nilmap] at hx; rw [vrel_map] at hy
      obtain ⟨_, _, rfl⟩ := hy
      subst hx; simp at h; simp [Op.equalIn, run_underlying hu, h]
    case h_17 hu =>
      rw [vrel_nilmap] at hy; rw [vrel_map] at hx
      obtain ⟨_, _, rfl⟩ := hx
      subst hy; simp at h; simp [Op.equalIn, run_underlying hu, h]
    case h_18 hu => rw [vrel_nilFunc] at hx hy; subst hx; subst hy; simp at h; simp [Op.equalIn, run_underlying hu, h]
    case h_19 hu =>
      rw [vrel_nilFunc] at hx; rw [vrel_func] at hy
      obtain ⟨_, _, rfl, _⟩ := hy
      subst hx; simp at h; simp [Op.equalIn, run_underlying hu, h]
    case h_20 hu =>
      rw [vrel_nilFunc] at hy; rw [vrel_func] at hx
      obtain ⟨_, _, rfl, _⟩ := hx
      subst hy; simp at h; simp [Op.equalIn, run_underlying hu, h]
    case h_21 => simp at h

end Go.Am
namespace Go.Am
variable {θ : Where} {P : Program} {w : World}

theorem cell_of_block {h : Array Obj} {cb : Nat} {c : Array Value} {el : TypeId} {f : Nat × Nat} {i : Nat} {v : Value} {w : World} (hw : w.heap[cb]? = some (.cells c el f)) (hc : c[i]? = some v) :
    w.cell? ⟨cb, i, none⟩ = some v := by
  simp [World.cell?, hw, hc]

theorem addr_add (cb i n : Nat) : (⟨cb, i, none⟩ : Addr).add n = ⟨cb, i + n, none⟩ := by
  unfold Addr.add
  split
  · rename_i h; subst h; rfl
  · rfl

theorem eqGuard_ok {op : BinOp} {t : TypeId} {x y : Operand} {a b : AV} {ca cb : Value} (h : eqOk P t x y a b = true) (ha : VRel θ a ca) (hb : VRel θ b cb) :
    (eqGuard op t x y ca cb).run P w = .ok () w := by
  have hcase : ∀ (g : Sem Unit), g.run P w = .ok () w → ((do if !(op matches .eql | .neq) then return
                                                             g : Sem Unit)).run P w = .ok () w := by
    intro g hg
    cases op <;> simp_all
  refine hcase _ ?_
  · unfold eqOk at h
    split at h
    · rw [vrel_nilIface] at ha hb; subst ha; subst hb
      clear hcase
      cases x <;> cases y <;> first
        | (exfalso; simp [isConst] at h; done)
        | simp
    · rw [vrel_agg] at ha hb
      obtain ⟨_, rfl, _⟩ := ha
      obtain ⟨_, rfl, _⟩ := hb
      simp at h
      simp [h]
    · rename_i h1 h2
      split
      · rename_i e1 e2
        exfalso
        have ea : a = .nilIface := by cases a <;> simp_all [VRel]
        have eb : b = .nilIface := by cases b <;> simp_all [VRel]
        exact h1 ea eb
      · rename_i e1 e2
        exfalso
        have ea : ∃ l, a = .agg l := by cases a <;> simp_all [VRel]
        have eb : ∃ l, b = .agg l := by cases b <;> simp_all [VRel]
        obtain ⟨_, ea⟩ := ea
        obtain ⟨_, eb⟩ := eb
        exact h2 _ _ ea eb
      · rfl

theorem gives_bind {s : Sem Unit} {k : Sem Value} {v : AV} (h1 : s.run P w = .ok () w) (h2 : Gives θ P w k v) : Gives θ P w (do s; k) v := by
  obtain ⟨cv, h, r⟩ := h2
  exact ⟨cv, by simp [h1, h], r⟩

theorem binOp_eql (t : TypeId) (ca cb : Value) (h1 : ∀ k n, ca ≠ .int k n ∨ ∀ k' n', cb ≠ .int k' n') (h2 : ∀ s, ca ≠ .string s ∨ ∀ s', cb ≠ .string s') (h3 : ∀ k n, ca ≠ .float k n) (h4 : ∀ k n m, ca ≠ .complex k n m) :
    binOp .eql t ca cb = (do pure (.bool (← Op.equal t ca cb))) := by
  unfold binOp
  split <;> simp_all

theorem binOp_neq (t : TypeId) (ca cb : Value) (h1 : ∀ k n, ca ≠ .int k n ∨ ∀ k' n', cb ≠ .int k' n') (h2 : ∀ s, ca ≠ .string s ∨ ∀ s', cb ≠ .string s') (h3 : ∀ k n, ca ≠ .float k n) (h4 : ∀ k n m, ca ≠ .complex k n m) :
    binOp .neq t ca cb = (do pure (.bool (!(← Op.equal t ca cb)))) := by
  unfold binOp
  split <;> simp_all

theorem vrel_not_float {a : AV} {ca : Value} (h : VRel θ a ca) : (∀ k n, ca ≠ .float k n) ∧ (∀ k n m, ca ≠ .complex k n m) := by
  cases a <;> cases ca <;> simp_all [VRel]
theorem vrel_is_int {a : AV} {k : IntKind} {n : Int} (h : VRel θ a (.int k n)) : a = .int k n := by
  cases a <;> simp_all [VRel]
theorem vrel_is_str {a : AV} {s : ByteArray} (h : VRel θ a (.string s)) : a = .str (bytesOf s) := by
  cases a <;> simp_all [VRel]

theorem aBin_sound {op : BinOp} {t : TypeId} {x y : Operand} {a b v : AV} {ca cb : Value} (h : aBin P op t x y a b = some v) (ha : VRel θ a ca) (hb : VRel θ b cb) :
    Gives θ P w (do eqGuard op t x y ca cb; binOp op t ca cb) v := by
  unfold aBin at h
  split at h
  · rename_i k m k' n
    rw [vrel_int] at ha hb; subst ha; subst hb
    refine gives_bind (eqGuard_int ..) ?_
    split at h
    · exact shiftOp_sound h t
    · exact shiftOp_sound h t
    · split at h
      · rename_i hk; subst hk; exact intOp_sound h t
      · simp at h
  · rw [vrel_str] at ha hb
    obtain ⟨sa, rfl, rfl⟩ := ha
    obtain ⟨sb, rfl, rfl⟩ := hb
    exact gives_bind (eqGuard_str ..) (strOp_sound h t)
  · rename_i h1 h2
    split at h
    · simp at h
    · rename_i hok
      refine gives_bind (eqGuard_ok hok ha hb) ?_
      have n1 : ∀ k n, ca ≠ .int k n ∨ ∀ k' n', cb ≠ .int k' n' := by
        intro k n
        by_cases e : ca = .int k n
        · right; intro k' n' e'
          subst e; subst e'
          exact h1 _ _ _ _ (vrel_is_int ha) (vrel_is_int hb)
        · exact .inl e
      have n2 : ∀ s, ca ≠ .string s ∨ ∀ s', cb ≠ .string s' := by
        intro s
        by_cases e : ca = .string s
        · right; intro s' e'
          subst e; subst e'
          exact h2 _ _ (vrel_is_str ha) (vrel_is_str hb)
        · exact .inl e
      obtain ⟨n3, n4⟩ := vrel_not_float ha
      split at h
      · split at h
        · rename_i r hr
          simp at h; subst h
          have := aEq_sound (w := w) _ _ _ _ _ _ _ hr ha hb Op.maxDepth (by decide)
          exact ⟨.bool r, by rw [binOp_eql t ca cb n1 n2 n3 n4]; simp [Op.equal, this], by rw [vrel_bool]⟩
        · simp at h
      · split at h
        · rename_i r hr
          simp at h; subst h
          have := aEq_sound (w := w) _ _ _ _ _ _ _ hr ha hb Op.maxDepth (by decide)
          exact ⟨.bool (!r), by rw [binOp_neq t ca cb n1 n2 n3 n4]; simp [Op.equal, this], by rw [vrel_bool]⟩
        · simp at h
      · simp at h

theorem aUn_sound {op : UnOp} {x v : AV} {cx : Value} (h : aUn op x = some v) (hx : VRel θ x cx) : Gives θ P w (Op.unary op cx) v := by
  unfold aUn at h
  split at h
  · rw [vrel_int] at hx; subst hx; simp at h; subst h
    exact ⟨_, by simp [Op.unary, Op.intArith]; rfl, by simp [vrel_int]⟩
  · rw [vrel_int] at hx; subst hx
    simp only [intOp, Option.some.injEq] at h; subst h
    exact ⟨_, by simp only [Op.unary, Op.intBits]; rfl, by simp [vrel_int]⟩
  · rw [vrel_bool] at hx; subst hx; simp at h; subst h
    exact ⟨_, by simp [Op.unary]; rfl, by simp [vrel_bool]⟩
  · simp at h

theorem mrel_cells {σ : PT ABlock} (hM : MRel θ σ w.heap) {b : Nat} {xs : List AV} {ro : Bool} {fz : Nat} {ps : List Nat} (hb : σ.get b = some (.cells xs ro fz ps)) {cb base : Nat} (hθ : θ b = some (cb, base)) :
    ∃ c el f, w.heap[cb]? = some (.cells c el f) ∧ ∀ (i : Nat) (v : AV), xs[i]? = some v → ∃ cv, c[base + i]? = some cv ∧ VRel θ v cv := by
  obtain ⟨c, el, lo, hi, h1, _, _, h2, _⟩ := hM b _ cb base hb hθ
  exact ⟨c, el, _, h1, h2⟩

/-- cells from a place on, as they are read -/
theorem cells_load {xs : List AV} {c : Array Value} {el : TypeId} {f : Nat × Nat} {cb base o n : Nat} {r : List AV} (hw : w.heap[cb]? = some (.cells c el f))
    (hc : ∀ (i : Nat) (v : AV), xs[i]? = some v → ∃ cv, c[base + i]? = some cv ∧ VRel θ v cv) (hs : sub xs o n = some r) :
    ∃ cs : Array Value, (loadCells ⟨cb, base + o, none⟩ n).run P w = .ok cs w ∧ VRels θ r cs.toList := by
  obtain ⟨hl, hg⟩ := sub_some hs
  have key : ∀ j, j < n → ∃ cv, c[base + o + j]? = some cv ∧ ∃ x, r[j]? = some x ∧ VRel θ x cv := by
    intro j hj
    have hx : ∃ x, r[j]? = some x := ⟨r[j]'(by omega), by rw [List.getElem?_eq_getElem]⟩
    obtain ⟨x, hx⟩ := hx
    have := hg j hj
    rw [hx] at this
    obtain ⟨cv, h1, h2⟩ := hc (o + j) x this.symm
    exact ⟨cv, by rw [← h1]; congr 1; omega, x, hx, h2⟩
  refine ⟨((List.range n).map fun j => (c[base + o + j]?).getD default).toArray, ?_, ?_⟩
  · refine run_loadCells w _ n _ fun j hj => ?_
    obtain ⟨cv, h1, _⟩ := key j hj
    rw [addr_add, cell_of_block (h := w.heap) hw h1, h1]; rfl
  · refine vrels_of (by simp [hl]) fun i x d hx hd => ?_
    have hi : i < n := by
      rcases Nat.lt_or_ge i n with h' | h'
      · exact h'
      · rw [List.getElem?_eq_none (by omega)] at hx; simp at hx
    obtain ⟨cv, h1, y, hy, hr⟩ := key i hi
    rw [hx] at hy; simp at hy; subst hy
    have : d = cv := by
      simp [hi, h1] at hd
      exact hd.symm
    rw [this]; exact hr

theorem aLoad_sound {σ : PT ABlock} (hM : MRel θ σ w.heap) {t : TypeId} {p v : AV} {cp : Value} (h : aLoad P σ t p = some v) (hp : VRel θ p cp) : Gives θ P w (Instr.loadAt t cp) v := by
  unfold aLoad at h
  split at h
  · rename_i b o
    rw [vrel_ptr] at hp
    obtain ⟨cb, base, hθ, rfl⟩ := hp
    split at h
    · rename_i xs ro fz ps hb
      obtain ⟨c, el, f, hw, hc⟩ := mrel_cells hM hb hθ
      unfold aPart at h
      split at h
      · rename_i ha
        split at h
        · rename_i n hn
          split at h
          · rename_i r hr
            simp at h; subst h
            obtain ⟨cs, hl, hrel⟩ := cells_load (P := P) hw hc hr
            refine ⟨.agg cs, ?_, by rw [vrel_agg]; exact ⟨_, rfl, hrel⟩⟩
            simp [Instr.loadAt, Instr.sureAddr, loadVar, tyAgg_run ha, tySize_run hn, hl]
          · simp at h
        · simp at h
      · rename_i ha
        obtain ⟨cv, h1, h2⟩ := hc _ _ h
        refine ⟨cv, ?_, h2⟩
        simp [Instr.loadAt, Instr.sureAddr, loadVar, tyAgg_run ha, cell_of_block (h := w.heap) hw h1]
      · simp at h
    · simp at h
  · simp at h

end Go.Am
namespace Go.Am
variable {θ : Where} {P : Program} {w : World}

theorem bytesAt_eq : ∀ {n : Nat} {xs : List AV} {r : List Nat}, bytesAt n xs = some r → ∃ is : List Int, is.length = n ∧ r = is.map (fun i => i.toNat % 256) ∧ ∀ j, j < n → xs[j]? = some (.int .u8 (is.getD j 0))
  | 0, xs, r, h => by simp [bytesAt] at h; subst h; exact ⟨[], rfl, rfl, fun j hj => by omega⟩
  | n + 1, [], r, h => by simp [bytesAt] at h
  | n + 1, x :: xs, r, h => by
    unfold bytesAt at h
    split at h
    · rename_i h0; simp at h0
    · rename_i m i ys h0 h1
      simp at h0 h1
      obtain ⟨rfl, rfl⟩ := h1
      subst h0
      split at h
      · rename_i s hs
        simp at h; subst h
        obtain ⟨is, h1, h2, h3⟩ := bytesAt_eq hs
        refine ⟨i :: is, by simp [h1], by simp [h2]; rfl, fun j hj => ?_⟩
        cases j with
        | zero => simp
        | succ j => simpa using h3 j (by omega)
      · simp at h
    · simp at h

theorem aConv_sound {σ : PT ABlock} (hM : MRel θ σ w.heap) {src dst : TypeId} {x v : AV} {cx : Value} (h : aConv P σ src dst x = some v) (hx : VRel θ x cx) : Gives θ P w (convert src dst cx) v := by
  unfold aConv at h
  split at h
  case h_1 d k k' n hs hd =>
    rw [vrel_int] at hx; subst hx; simp at h; subst h
    refine ⟨_, ?_, by rw [vrel_int]⟩
    simp [convert, run_underlying hs, run_underlying hd, Conv.intToInt]
  case h_2 d s hs hd =>
    rw [vrel_str] at hx; obtain ⟨s, rfl, rfl⟩ := hx; simp at h; subst h
    refine ⟨.string s, ?_, by rw [vrel_str]; exact ⟨_, rfl, rfl⟩⟩
    simp [convert, run_underlying hs, run_underlying hd]
  case h_3 d k n hs hd =>
    rw [vrel_int] at hx; subst hx; simp at h; subst h
    refine ⟨.string (Utf8.encode n), ?_, by rw [vrel_str]; exact ⟨_, rfl, rfl⟩⟩
    simp [convert, run_underlying hs, run_underlying hd, Conv.intToString]
  case h_4 e hs hd =>
    rw [vrel_nilslice] at hx; subst hx
    split at h
    · rename_i he
      simp at h; subst h
      exact ⟨_, run_convert_bytes_nil w src e hs he 0 0 dst hd, by rw [vrel_str]; exact ⟨_, rfl, by simp [bytesOf]⟩⟩
    · simp at h
  case h_5 e b o n c ex z hs hd =>
    rw [vrel_slice] at hx
    obtain ⟨a, c', cb, base, rfl, h1, h2, h3, hθ, _, h4⟩ := hx
    split at h
    · rename_i he
      split at h
      · rename_i xs ro fz ps hb
        obtain ⟨ca, el, f, hw, hc⟩ := mrel_cells hM hb hθ
        split at h
        · simp at h; subst h
          refine ⟨.string ByteArray.empty, ?_, by rw [vrel_str]; exact ⟨_, rfl, by simp [bytesOf]⟩⟩
          have := run_convert_bytes_arg (P := P) w src e hs he a.block a.off 0 c' [] rfl (fun i hi => by omega) dst hd
          simp [convert, run_underlying hs, run_underlying hd, run_underlying he, Conv.bytesToString, loadCells, loadCellsFrom]
        · rename_i hn
          split at h
          · rename_i r hr
            simp at h; subst h
            obtain ⟨is, hl, rfl, hg⟩ := bytesAt_eq hr
            have hn0 : n ≠ 0 := fun e => hn e
            have ha : a = ⟨cb, base + o, none⟩ := h4.resolve_left (by omega)
            subst ha
            refine ⟨_, run_convert_bytes_arg (P := P) w src e hs he cb (base + o) n c' is hl (fun i hi => ?_) dst hd, ?_⟩
            · have := hg i hi
              rw [List.getElem?_drop] at this
              obtain ⟨cv, k1, k2⟩ := hc _ _ this
              rw [vrel_int] at k2; subst k2
              rw [show base + o + i = base + (o + i) by omega]
              exact cell_of_block (h := w.heap) hw k1
            · rw [vrel_str]
              refine ⟨_, rfl, ?_⟩
              simp only [bytesOf, strOfNums]
              simp
          · simp at h
      · simp at h
    · simp at h
  case h_6 => simp at h

/-- an operand that may be left out -/
def ORel (θ : Where) (x : Option AV) (cx : Option Value) : Prop := match x, cx with
  | none, none => True
  | some v, some c => VRel θ v c
  | _, _ => False

theorem aBound_run {x : Option AV} {cx : Option Value} {d : Nat} {i : Int} (h : aBound x d = some i) (hx : ORel θ x cx)
    (y : Nat) (code : BoundsCode) (h0 : 0 ≤ i) (hy : i ≤ y) : (match cx with | some v => Instr.sliceBound v y code | none => pure d).run P w = .ok i.toNat w := by
  cases x with
  | none =>
    cases cx with
    | none => simp [aBound] at h; subst h; simp
    | some c => exact (hx : False).elim
  | some x =>
    cases cx with
    | none => exact (hx : False).elim
    | some c =>
      have hx' : VRel θ x c := hx
      unfold aBound at h
      split at h
      · simp_all
      · rename_i k m e
        simp at e; subst e
        rw [vrel_int] at hx'; subst hx'
        simp at h; subst h
        simp [Instr.sliceBound, asIntOf, h0, hy]
      · simp at h

theorem bytes_extract (s : ByteArray) (l h : Nat) : bytesOf (s.extract l h) = ((bytesOf s).take h).drop l := by
  unfold bytesOf
  rw [ByteArray.data_extract, Array.toList_extract]
  simp [List.extract_eq_drop_take, List.drop_take, List.map_drop, List.map_take]

theorem bounds_run {lo hi mx : Option AV} {clo chi cmx : Option Value} {len cap : Nat} {l h m : Int} {isS : Bool}
    (hl : ORel θ lo clo) (hh : ORel θ hi chi) (hm : ORel θ mx cmx)
    (el : aBound lo 0 = some l) (eh : aBound hi len = some h) (em : (mx = none ∧ m = cap) ∨ (∃ k, mx = some (.int k m)) ∧ hi.isSome = true)
    (h0 : 0 ≤ l) (h1 : l ≤ h) (h2 : h ≤ m) (h3 : m ≤ cap) : (Instr.sliceBounds isS len cap clo chi cmx).run P w = .ok (l.toNat, h.toNat, m.toNat) w := by
  have hmR : (match cmx with | some v => Instr.sliceBound v cap (if isS then .slice3Acap else .slice3Alen) | none => pure cap).run P w = .ok m.toNat w := by
    rcases em with ⟨rfl, rfl⟩ | ⟨⟨k, rfl⟩, _⟩
    · cases cmx with
      | none => rfl
      | some c => exact (hm : False).elim
    · cases cmx with
      | none => exact (hm : False).elim
      | some c =>
        have hm' : VRel θ (.int k m) c := hm
        rw [vrel_int] at hm'; subst hm'
        simp [Instr.sliceBound, asIntOf, show 0 ≤ m by omega, h3]
  have hhR : ∀ code, (match chi with | some v => Instr.sliceBound v m.toNat code | none => pure len).run P w = .ok h.toNat w := by
    intro code
    have := aBound_run (P := P) (w := w) (cx := chi) eh hh m.toNat code (by omega) (by omega)
    exact this
  have hlR : ∀ code, (match clo with | some v => Instr.sliceBound v h.toNat code | none => pure 0).run P w = .ok l.toNat w := by
    intro code
    exact aBound_run (P := P) (w := w) (cx := clo) el hl h.toNat code h0 (by omega)
  unfold Instr.sliceBounds
  simp only [Sem.run_bind]
  cases cmx with
  | none =>
    have e : m.toNat = cap := by
      have e0 : cap = m.toNat := by simpa using hmR
      exact e0.symm
    cases chi with
    | none =>
      have e2 : h.toNat = len := by have := hhR .index; simp at this; exact this.symm
      cases clo with
      | none =>
        have e3 : l.toNat = 0 := by have := hlR .index; simp at this; exact this.symm
        simp [e, e2, e3]
      | some cl =>
        have := hlR .sliceB
        simp only at this
        simp [e2 ▸ this, e, e2]
    | some ch =>
      have k1 := hhR (if isS then .sliceAcap else .sliceAlen)
      simp only [e] at k1
      cases clo with
      | none =>
        have e3 : l.toNat = 0 := by have := hlR .index; simp at this; exact this.symm
        simp [k1, e, e3]
      | some cl =>
        have k2 := hlR .sliceB
        simp only at k2
        simp [k1, k2, e]
  | some cm =>
    simp only at hmR
    rcases em with ⟨rfl, rfl⟩ | ⟨⟨k, rfl⟩, hs⟩
    · exact (hm : False).elim
    · cases chi with
      | none => cases hi <;> first | (simp at hs; done) | exact (hh : False).elim
      | some ch =>
        have k1 := hhR .slice3B
        simp only at k1
        cases clo with
        | none =>
          have e3 : l.toNat = 0 := by have := hlR .index; simp at this; exact this.symm
          simp [hmR, k1, e3]
        | some cl =>
          have k2 := hlR .slice3C
          simp only at k2
          simp [hmR, k1, k2]

end Go.Am
namespace Go.Am
variable {θ : Where} {P : Program} {w : World}

theorem vrel_slice_mk {b o n c : Nat} {ex : Bool} {z : Nat} {a : Addr} {c' : Nat} {cb base : Nat} (h1 : n ≤ c') (h2 : c ≤ c') (h3 : ex = true → c' = c) (hθ : θ b = some (cb, base)) (hz : base + o + c' * z ≤ θ.tot b) (ha : c' = 0 ∨ a = ⟨cb, base + o, none⟩) :
    VRel θ (.slice b o n c ex z) (.slice (some a) n c') := vrel_slice.2 ⟨a, c', cb, base, rfl, h1, h2, h3, hθ, hz, ha⟩

theorem toNat_sub {h l : Int} (h0 : 0 ≤ l) (h1 : l ≤ h) : h.toNat - l.toNat = (h - l).toNat := by omega

theorem room_sub {base o c l z t : Nat} (h : base + o + c * z ≤ t) (hl : l ≤ c) : base + (o + l * z) + (c - l) * z ≤ t := by
  have e : l * z + (c - l) * z = c * z := by rw [← Nat.add_mul]; congr 1; omega
  omega
theorem room_sub2 {base o c l m z t : Nat} (h : base + o + c * z ≤ t) (hl : l ≤ m) (hm : m ≤ c) : base + (o + l * z) + (m - l) * z ≤ t := by
  have e : l * z + (m - l) * z = m * z := by rw [← Nat.add_mul]; congr 1; omega
  have := Nat.mul_le_mul_right z hm
  omega

theorem aSlice_sound {σ : PT ABlock} (hM : MRel θ σ w.heap) {t : TypeId} {x v : AV} {lo hi mx : Option AV} {cx : Value} {clo chi cmx : Option Value} (h : aSlice P σ t x lo hi mx = some v) (hx : VRel θ x cx)
    (hl : ORel θ lo clo) (hh : ORel θ hi chi) (hm : ORel θ mx cmx) : Gives θ P w (Instr.sliceAt t cx clo chi cmx) v := by
  unfold aSlice at h
  split at h
  case h_1 s hu =>
    rw [vrel_str] at hx; obtain ⟨s, rfl, rfl⟩ := hx
    cases mx with
    | some m => simp at h
    | none =>
      cases cmx with
      | some c => exact (hm : False).elim
      | none =>
        simp only at h
        split at h
        · rename_i l hh' el eh
          split at h
          · rename_i hc
            simp at h; subst h
            rw [bytesOf_length] at eh hc
            have := bounds_run (P := P) (w := w) (mx := none) (cmx := none) (len := s.size) (cap := s.size) (isS := false) (m := s.size) hl hh trivial el eh (.inl ⟨rfl, rfl⟩) hc.1 hc.2.1 hc.2.2 (by omega)
            refine ⟨.string (s.extract l.toNat hh'.toNat), ?_, by rw [vrel_str]; exact ⟨_, rfl, bytes_extract ..⟩⟩
            simp [Instr.sliceAt, Instr.slice, run_underlying hu, this]
          · simp at h
        · simp at h
  case h_2 e hu =>
    rw [vrel_nilslice] at hx; subst hx
    cases mx with
    | some m => simp at h
    | none =>
      cases cmx with
      | some c => exact (hm : False).elim
      | none =>
        simp only at h
        split at h
        · rename_i l hh' sz el eh hsz
          split at h
          · rename_i hc
            simp at h; subst h
            have := bounds_run (P := P) (w := w) (mx := none) (cmx := none) (len := 0) (cap := 0) (isS := true) (m := 0) hl hh trivial el eh (.inl ⟨rfl, rfl⟩) (by omega) (by omega) (by omega) (by omega)
            refine ⟨.slice none 0 0, ?_, by rw [vrel_nilslice]⟩
            simp [Instr.sliceAt, Instr.slice, run_underlying hu, this, tySize_run hsz, hc]
          · simp at h
        · simp at h
  case h_3 e b o n c ex z hu =>
    rw [vrel_slice] at hx
    obtain ⟨a, c', cb, base, rfl, h1, h2, h3, hθ, hz, ha⟩ := hx
    split at h
    · simp at h
    · rename_i sz hsz
      split at h
      · simp at h
      rename_i hbeq
      obtain rfl : sz = z := Nat.eq_of_beq_eq_true hbeq
      split at h
      · cases cmx with
        | some c => exact (hm : False).elim
        | none =>
          split at h
          · rename_i l hh' el eh
            split at h
            · rename_i hc
              simp at h; subst h
              have := bounds_run (P := P) (w := w) (mx := none) (cmx := none) (len := n) (cap := c') (isS := true) (m := c') hl hh trivial el eh (.inl ⟨rfl, rfl⟩) (by omega) (by omega) (by omega) (by omega)
              by_cases hcl : c' = l.toNat
              · refine ⟨.slice (some a) (hh'.toNat - l.toNat) (c' - l.toNat), ?_, ?_⟩
                · simp [Instr.sliceAt, Instr.slice, run_underlying hu, this, tySize_run hsz]
                  try simp [hcl]
                · rw [toNat_sub (by omega) (by omega)]
                  exact vrel_slice_mk (by omega) (by omega) (fun e => by rw [h3 e]) hθ (room_sub hz (by omega)) (.inl (by omega))
              · refine ⟨.slice (some (a.add (l.toNat * sz))) (hh'.toNat - l.toNat) (c' - l.toNat), ?_, ?_⟩
                · simp [Instr.sliceAt, Instr.slice, run_underlying hu, this, tySize_run hsz]
                  try simp [hcl]
                · rw [toNat_sub (by omega) (by omega)]
                  refine vrel_slice_mk (by omega) (by omega) (fun e => by rw [h3 e]) hθ (room_sub hz (by omega)) (.inr ?_)
                  rw [ha.resolve_left (by omega), addr_add]; congr 1; omega
            · simp at h
          · simp at h
      · rename_i k m
        cases cmx with
        | none => exact (hm : False).elim
        | some cm =>
          split at h
          · rename_i l hh' el eh
            split at h
            · rename_i hc
              simp at h; subst h
              have := bounds_run (P := P) (w := w) (mx := some (.int k m)) (cmx := some cm) (len := n) (cap := c') (isS := true) (m := m) hl hh hm el eh (.inr ⟨⟨k, rfl⟩, hc.2.2.2.2⟩) (by omega) (by omega) (by omega) (by omega)
              by_cases hcl : m.toNat = l.toNat
              · refine ⟨.slice (some a) (hh'.toNat - l.toNat) (m.toNat - l.toNat), ?_, ?_⟩
                · simp [Instr.sliceAt, Instr.slice, run_underlying hu, this, tySize_run hsz]
                  try simp [hcl]
                · rw [toNat_sub (by omega) (by omega)]
                  exact vrel_slice_mk (by omega) (by omega) (by omega) hθ (room_sub2 hz (by omega) (by omega)) (.inl (by omega))
              · refine ⟨.slice (some (a.add (l.toNat * sz))) (hh'.toNat - l.toNat) (m.toNat - l.toNat), ?_, ?_⟩
                · simp [Instr.sliceAt, Instr.slice, run_underlying hu, this, tySize_run hsz]
                  try simp [hcl]
                · rw [toNat_sub (by omega) (by omega)]
                  refine vrel_slice_mk (by omega) (by omega) (by omega) hθ (room_sub2 hz (by omega) (by omega)) (.inr ?_)
                  rw [ha.resolve_left (by omega), addr_add]; congr 1; omega
            · simp at h
          · simp at h
      · simp at h
  case h_4 n e b o hu =>
    rw [vrel_ptr] at hx
    obtain ⟨cb, base, hθ, rfl⟩ := hx
    split at h
    · rename_i sz hsz
      cases cmx with
      | some c => exact (hm : False).elim
      | none =>
        split at h
        · rename_i l hh' el eh
          split at h
          · rename_i xs ro fz ps hb
            split at h
            · rename_i hc
              have hz : base + o + n * sz ≤ θ.tot b := by
                obtain ⟨ca, _, _, _, _, k1, k2, _⟩ := hM b _ _ _ hb hθ
                omega
              simp at h; subst h
              have := bounds_run (P := P) (w := w) (mx := none) (cmx := none) (len := n) (cap := n) (isS := false) (m := n) hl hh trivial el eh (.inl ⟨rfl, rfl⟩) (by omega) (by omega) (by omega) (by omega)
              by_cases hcl : n = l.toNat
              · refine ⟨.slice (some ⟨cb, base + o, none⟩) (hh'.toNat - l.toNat) (n - l.toNat), ?_, ?_⟩
                · simp [Instr.sliceAt, Instr.sureAddr, run_underlying hu, this, tySize_run hsz]
                  try simp [hcl]
                · rw [toNat_sub (by omega) (by omega)]
                  exact vrel_slice_mk (by omega) (by omega) (by omega) hθ (room_sub hz (by omega)) (.inl (by omega))
              · refine ⟨.slice (some ((⟨cb, base + o, none⟩ : Addr).add (l.toNat * sz))) (hh'.toNat - l.toNat) (n - l.toNat), ?_, ?_⟩
                · simp [Instr.sliceAt, Instr.sureAddr, run_underlying hu, this, tySize_run hsz, hcl]
                · rw [toNat_sub (by omega) (by omega)]
                  refine vrel_slice_mk (by omega) (by omega) (by omega) hθ (room_sub hz (by omega)) (.inr ?_)
                  rw [addr_add]; congr 1; omega
            · simp at h
          · simp at h
        · simp at h
    · simp at h
  case h_5 => simp at h

theorem aIndexAddr_sound {t : TypeId} {x i v : AV} {cx ci : Value} (h : aIndexAddr P t x i = some v) (hx : VRel θ x cx) (hi : VRel θ i ci) : Gives θ P w (Instr.indexAt t cx ci) v := by
  unfold aIndexAddr at h
  split at h
  · rename_i k i
    rw [vrel_int] at hi; subst hi
    split at h
    · rename_i n e b o hu
      rw [vrel_ptr] at hx
      obtain ⟨cb, base, hθ, rfl⟩ := hx
      split at h
      · rename_i sz hsz
        split at h
        · rename_i hc
          simp at h; subst h
          refine ⟨.pointer (some ((⟨cb, base + o, none⟩ : Addr).add (i.toNat * sz))), ?_, ?_⟩
          · simp [Instr.indexAt, asIntOf, Instr.sureAddr, run_underlying hu, tySize_run hsz, hc]
          · rw [addr_add, vrel_ptr]; exact ⟨cb, base, hθ, by congr 3; omega⟩
        · simp at h
      · simp at h
    · rename_i e b o n c ex z hu
      rw [vrel_slice] at hx
      obtain ⟨a, c', cb, base, rfl, h1, h2, h3, hθ, _, ha⟩ := hx
      split at h
      · rename_i sz hsz
        split at h
        · rename_i hc
          simp at h; subst h
          refine ⟨.pointer (some (a.add (i.toNat * sz))), ?_, ?_⟩
          · simp [Instr.indexAt, asIntOf, run_underlying hu, tySize_run hsz, hc]
          · rw [ha.resolve_left (by omega), addr_add, vrel_ptr]; exact ⟨cb, base, hθ, by congr 3; omega⟩
        · simp at h
      · simp at h
    · simp at h
  · simp at h

theorem bytesOf_get {s : ByteArray} {i : Nat} {b : Nat} (h : (bytesOf s)[i]? = some b) : ∃ x, s[i]? = some x ∧ x.toNat = b := by
  unfold bytesOf at h
  rw [List.getElem?_map] at h
  cases e : s.data.toList[i]? with
  | none => simp [e] at h
  | some x =>
    simp [e] at h
    refine ⟨x, ?_, h⟩
    rw [Array.getElem?_toList] at e
    have hlt : i < s.data.size := by
      rcases Nat.lt_or_ge i s.data.size with h' | h'
      · exact h'
      · simp [Array.getElem?_eq_none h'] at e
    rw [getElem?_pos s i (by simpa using hlt)]
    rw [Array.getElem?_eq_getElem hlt] at e
    exact e

theorem aIndex_sound {t : TypeId} {x i v : AV} {cx ci : Value} (h : aIndex P t x i = some v) (hx : VRel θ x cx) (hi : VRel θ i ci) : Gives θ P w (Instr.index t cx ci) v := by
  unfold aIndex at h
  split at h
  · rename_i k i
    rw [vrel_int] at hi; subst hi
    split at h
    · rename_i n e cs hu
      rw [vrel_agg] at hx
      obtain ⟨ds, rfl, hr⟩ := hx
      split at h
      · rename_i sz hsz
        split at h
        · rename_i hc
          obtain ⟨cv, h1, h2⟩ := aPart_run (w := w) h hr
          exact ⟨cv, by simp [Instr.index, asIntOf, run_underlying hu, tySize_run hsz, hc, h1], h2⟩
        · simp at h
      · simp at h
    · rename_i s hu
      rw [vrel_str] at hx; obtain ⟨s, rfl, rfl⟩ := hx
      split at h
      · rename_i hc
        split at h
        · rename_i b hb
          simp at h; subst h
          obtain ⟨x, h1, rfl⟩ := bytesOf_get hb
          exact ⟨.int .u8 x.toNat, by simp [Instr.index, asIntOf, run_underlying hu, hc, h1], by rw [vrel_int]⟩
        · simp at h
      · simp at h
    · simp at h
  · simp at h

theorem aFieldAddr_sound {s : TypeId} {x v : AV} {f : Nat} {cx : Value} (h : aFieldAddr P s x f = some v) (hx : VRel θ x cx) : Gives θ P w (Instr.fieldAt s cx f) v := by
  unfold aFieldAddr at h
  split at h
  · rename_i b o
    rw [vrel_ptr] at hx
    obtain ⟨cb, base, hθ, rfl⟩ := hx
    split at h
    · rename_i fs hu
      split at h
      · rename_i fd hf
        split at h
        · simp at h
        · rename_i n hn hsz
          simp at h; subst h
          refine ⟨.pointer (some ((⟨cb, base + o, none⟩ : Addr).add fd.offset)), ?_, ?_⟩
          · simp [Instr.fieldAt, Instr.sureAddr, run_underlying hu, hf, fieldPlace, tySize_run hsz, show n ≠ 0 from fun e => hn (e ▸ rfl)]
          · rw [addr_add, vrel_ptr]; exact ⟨cb, base, hθ, by congr 3; omega⟩
        · simp at h
      · simp at h
    · simp at h
  · simp at h

theorem aField_sound {t : TypeId} {x v : AV} {f : Nat} {cx : Value} (h : aField P t x f = some v) (hx : VRel θ x cx) : Gives θ P w (Instr.field t cx f) v := by
  unfold aField at h
  split at h
  · rw [vrel_agg] at hx
    obtain ⟨ds, rfl, hr⟩ := hx
    split at h
    · rename_i fs hu
      split at h
      · rename_i fd hf
        obtain ⟨cv, h1, h2⟩ := aPart_run (w := w) h hr
        exact ⟨cv, by simp [Instr.field, run_underlying hu, hf, asAgg, h1], h2⟩
      · simp at h
    · simp at h
  · simp at h

end Go.Am
namespace Go.Am
variable {θ : Where} {P : Program} {w : World}

theorem lay_spec : ∀ {xs : List AV} {o : Nat} {ys r : List AV}, lay xs o ys = some r → r.length = xs.length ∧ o + ys.length ≤ xs.length ∧ ∀ j, r[j]? = if o ≤ j ∧ j < o + ys.length then ys[j - o]? else xs[j]?
  | xs, 0, [], r, h => by simp [lay] at h; subst h; simp
  | x :: xs, 0, y :: ys, r, h => by
    simp only [lay] at h
    split at h
    · rename_i s hs
      simp at h; subst h
      obtain ⟨h1, h2, h3⟩ := lay_spec hs
      refine ⟨by simp [h1], by simp at h2 ⊢; omega, fun j => ?_⟩
      cases j with
      | zero => simp
      | succ j =>
        have := h3 j
        simp only [List.getElem?_cons_succ, this]
        simp
    · simp at h
  | x :: xs, o + 1, ys, r, h => by
    simp only [lay] at h
    split at h
    · rename_i s hs
      simp at h; subst h
      obtain ⟨h1, h2, h3⟩ := lay_spec hs
      refine ⟨by simp [h1], by simp at h2 ⊢; omega, fun j => ?_⟩
      cases j with
      | zero => simp
      | succ j =>
        have := h3 j
        simp only [List.getElem?_cons_succ, this]
        by_cases hc : o ≤ j ∧ j < o + ys.length
        · rw [if_pos hc, if_pos (by omega)]; congr 1; omega
        · rw [if_neg hc, if_neg (by omega)]
    · simp at h
  | [], 0, _ :: _, r, h => by simp [lay] at h
  | [], _ + 1, _, r, h => by simp [lay] at h

theorem foldl_lay : ∀ (l : List Value) (k off : Nat) (cs : Array Value), off + k + l.length ≤ cs.size →
    let r := (l.zipIdx k).foldl (fun cs (c : Value × Nat) => cs.setIfInBounds (off + c.2) c.1) cs
    r.size = cs.size ∧ ∀ j, r[j]? = if off + k ≤ j ∧ j < off + k + l.length then l[j - (off + k)]? else cs[j]?
  | [], k, off, cs, h => by simp; intro j h1 h2; omega
  | c :: l, k, off, cs, h => by
    simp only [List.zipIdx_cons, List.foldl_cons]
    have ih := foldl_lay l (k + 1) off (cs.setIfInBounds (off + k) c) (by simp at h ⊢; omega)
    simp only at ih
    refine ⟨by simpa using ih.1, fun j => ?_⟩
    rw [ih.2 j]
    simp only [List.length_cons]
    by_cases h1 : off + (k + 1) ≤ j ∧ j < off + (k + 1) + l.length
    · rw [if_pos h1, if_pos (by omega)]
      rw [show j - (off + k) = (j - (off + (k + 1))) + 1 by omega]; simp
    · rw [if_neg h1]
      by_cases h2 : j = off + k
      · subst h2
        rw [if_pos (by omega)]
        simp at h
        simp [Array.getElem?_setIfInBounds, show off + k < cs.size by omega]
      · rw [if_neg (by omega)]
        simp [Array.getElem?_setIfInBounds, show off + k ≠ j from fun e => h2 e.symm]

theorem aCells_rel {v : AV} {c : Value} (h : VRel θ v c) : VRels θ (aCells v) c.cells.toList := by
  cases v <;> cases c <;> first
    | (simp_all [VRel]; done)
    | (simp only [aCells, Value.cells, VRels]; exact ⟨h, trivial⟩)
    | (simp only [aCells, Value.cells]; simpa [VRel] using h)

theorem vrels_size {xs : List AV} {cs : Array Value} (h : VRels θ xs cs.toList) : cs.size = xs.length := by
  have := vrels_len h; simpa using this.symm

inductive PartsRel (θ : Where) : List (Nat × AV) → List (Nat × Value) → Prop
  | nil : PartsRel θ [] []
  | cons {i : Nat} {v : AV} {c : Value} {l : List (Nat × AV)} {l' : List (Nat × Value)} : VRel θ v c → PartsRel θ l l' → PartsRel θ ((i, v) :: l) ((i, c) :: l')

theorem lay_rel {xs ys r : List AV} {o : Nat} {cs ds : Array Value} (h : lay xs o ys = some r) (hx : VRels θ xs cs.toList) (hy : VRels θ ys ds.toList) :
    VRels θ r ((ds.zipIdx.foldl (fun cs (c : Value × Nat) => cs.setIfInBounds (o + c.2) c.1) cs)).toList := by
  obtain ⟨h1, h2, h3⟩ := lay_spec h
  have hsx := vrels_size hx
  have hsy := vrels_size hy
  rw [show ds.zipIdx.foldl (fun cs (c : Value × Nat) => cs.setIfInBounds (o + c.2) c.1) cs = (ds.toList.zipIdx 0).foldl (fun cs (c : Value × Nat) => cs.setIfInBounds (o + c.2) c.1) cs by
    rw [← Array.foldl_toList]; simp]
  have hf := foldl_lay ds.toList 0 o cs (by simp; omega)
  simp only [Nat.add_zero] at hf
  refine vrels_of (by simp [hf.1, h1, hsx]) fun i x c hxi hci => ?_
  rw [Array.getElem?_toList, hf.2 i] at hci
  rw [h3 i] at hxi
  simp only [Array.length_toList, hsy] at hci
  split at hxi
  · rename_i hc
    rw [if_pos hc] at hci
    obtain ⟨d, hd, hr⟩ := vrels_get hy hxi
    rw [hd] at hci; simp at hci; subst hci; exact hr
  · rename_i hc
    rw [if_neg hc] at hci
    obtain ⟨d, hd, hr⟩ := vrels_get hx hxi
    rw [Array.getElem?_toList] at hd
    rw [hd] at hci; simp at hci; subst hci; exact hr

theorem aFill_sound {pl pl' : Nat → Option (Nat × Nat)} (hpl : ∀ i, pl i = pl' i) : ∀ {parts : List (Nat × AV)} {cparts : List (Nat × Value)} {xs r : List AV} {cs : Array Value}, aFill pl parts xs = some r → PartsRel θ parts cparts → VRels θ xs cs.toList →
    ∃ cr, Instr.fill pl' cs cparts = some cr ∧ VRels θ r cr.toList
  | [], _, xs, r, cs, h, hp, hx => by
    cases hp; simp [aFill] at h; subst h
    exact ⟨cs, rfl, hx⟩
  | (i, v) :: rest, _, xs, r, cs, h, hp, hx => by
    cases hp with
    | cons hv hrest =>
      rename_i c l'
      simp only [aFill] at h
      split at h
      · simp at h
      · rename_i off size hpi
        split at h
        · rename_i hbeq
          split at h
          · rename_i s hs
            have hvc := aCells_rel hv
            have hsz : c.cells.size = size := by rw [vrels_size hvc]; exact Nat.eq_of_beq_eq_true hbeq
            obtain ⟨h1, h2, _⟩ := lay_spec hs
            have := vrels_size hx
            have := vrels_size hvc
            obtain ⟨cr, hcr, hrr⟩ := aFill_sound hpl h hrest (lay_rel hs hx hvc)
            refine ⟨cr, ?_, hrr⟩
            have hcond : (c.cells.size ≠ size || decide (off + c.cells.size > cs.size)) = false := by simp; omega
            simp only [Instr.fill, ← hpl, hpi]
            rw [if_neg (by simp only [hcond]; simp)]
            exact hcr
          · simp at h
        · simp at h

theorem fieldPlaces_eq : ∀ {fs : List Field} {pl : List (Nat × Nat)}, fieldPlaces P fs = some pl → fs.mapM (fun f => (P.info? f.type).map fun i => (f.offset, i.size)) = some pl
  | [], pl, h => by simp [fieldPlaces] at h; subst h; simp
  | f :: fs, pl, h => by
    simp only [fieldPlaces] at h
    split at h
    · rename_i n r hn hr
      simp at h; subst h
      unfold tySize at hn
      split at hn
      · rename_i i hi
        simp at hn; subst hn
        have := fieldPlaces_eq hr
        simp [List.mapM_cons, hi, this]
      · simp at hn
    · simp at h

mutual
theorem ofValue_rel : ∀ (v : Value) (x : AV), AV.ofValue v = some x → VRel θ x v
  | .bool b, x, h => by simp [AV.ofValue] at h; subst h; simp [VRel]
  | .int k n, x, h => by simp [AV.ofValue] at h; subst h; simp [VRel]
  | .string s, x, h => by simp [AV.ofValue] at h; subst h; simp [VRel]
  | .pointer none, x, h => by simp [AV.ofValue] at h; subst h; simp [VRel]
  | .pointer (some _), x, h => by simp [AV.ofValue] at h
  | .slice none 0 0, x, h => by simp [AV.ofValue] at h; subst h; simp [VRel]
  | .slice none 0 (_ + 1), x, h => by simp [AV.ofValue] at h
  | .slice none (_ + 1) _, x, h => by simp [AV.ofValue] at h
  | .slice (some _) _ _, x, h => by simp [AV.ofValue] at h
  | .map none, x, h => by simp [AV.ofValue] at h; subst h; simp [VRel]
  | .map (some _), x, h => by simp [AV.ofValue] at h
  | .func fn ⟨a⟩ ⟨b⟩, x, h => by
    simp only [AV.ofValue] at h
    split at h
    · rename_i y z hy hz
      simp at h; subst h
      simp only [VRel]
      exact ⟨by trivial, ofValues_rel a y hy, ofValues_rel b z hz⟩
    · simp at h
  | .nilFunc, x, h => by simp [AV.ofValue] at h; subst h; simp [VRel]
  | .iface t v, x, h => by
    simp only [AV.ofValue] at h
    split at h
    · rename_i y hy
      simp at h; subst h
      simp only [VRel]
      exact ⟨by trivial, ofValue_rel v y hy⟩
    · simp at h
  | .nilIface, x, h => by simp [AV.ofValue] at h; subst h; simp [VRel]
  | .agg ⟨a⟩, x, h => by
    simp only [AV.ofValue] at h
    split at h
    · rename_i y hy
      simp at h; subst h
      simp only [VRel]
      exact ofValues_rel a y hy
    · simp at h
  | .tuple ⟨a⟩, x, h => by
    simp only [AV.ofValue] at h
    split at h
    · rename_i y hy
      simp at h; subst h
      simp only [VRel]
      exact ofValues_rel a y hy
    · simp at h
  | .float .., x, h => by simp [AV.ofValue] at h
  | .complex .., x, h => by simp [AV.ofValue] at h
  | .chan _, x, h => by simp [AV.ofValue] at h
theorem ofValues_rel : ∀ (l : List Value) (xs : List AV), AV.ofValues l = some xs → VRels θ xs l
  | [], xs, h => by simp [AV.ofValues] at h; subst h; simp [VRels]
  | v :: l, xs, h => by
    simp only [AV.ofValues] at h
    split at h
    · rename_i x y hx hy
      simp at h; subst h
      simp only [VRels]
      exact ⟨ofValue_rel v x hx, ofValues_rel l y hy⟩
    · simp at h
end

theorem aBuild_sound {t : TypeId} {parts : List (Nat × AV)} {v : AV} {cparts : Array (Nat × Value)} (h : aBuild P t parts = some v) (hp : PartsRel θ parts cparts.toList) : Gives θ P w (Instr.build t cparts) v := by
  unfold aBuild at h
  split at h
  · rename_i z fs hz hu
    split at h
    · rename_i pl hpl
      split at h
      · rename_i r hr
        simp at h; subst h
        unfold zeroOf at hz
        split at hz
        · rename_i i hi
          split at hz
          · rename_i zv hzv
            have hzr : VRel θ z zv := ofValue_rel zv z hz
            obtain ⟨cr, h1, h2⟩ := aFill_sound (pl' := fun i => pl.toArray[i]?) (fun i => by simp) hr hp (aCells_rel hzr)
            refine ⟨.agg cr, run_build w t cparts cr ?_, by rw [vrel_agg]; exact ⟨_, rfl, h2⟩⟩
            unfold Program.built
            rw [hi, hu]
            simp only [hzv, fieldPlaces_eq hpl]
            exact h1
          · simp at hz
        · simp at hz
      · simp at h
    · simp at h
  · rename_i z n e hz hu
    split at h
    · rename_i sz hsz
      split at h
      · rename_i r hr
        simp at h; subst h
        unfold zeroOf at hz
        split at hz
        · rename_i i hi
          split at hz
          · rename_i zv hzv
            have hzr : VRel θ z zv := ofValue_rel zv z hz
            obtain ⟨cr, h1, h2⟩ := aFill_sound (pl' := fun i => some (i * sz, sz)) (fun i => rfl) hr hp (aCells_rel hzr)
            refine ⟨.agg cr, run_build w t cparts cr ?_, by rw [vrel_agg]; exact ⟨_, rfl, h2⟩⟩
            unfold tySize at hsz
            split at hsz
            · rename_i ie hie
              simp at hsz; subst hsz
              unfold Program.built
              rw [hi, hu]
              simp only [hzv, hie]
              exact h1
            · simp at hsz
          · simp at hz
        · simp at hz
      · simp at h
    · simp at h
  · simp at h

end Go.Am
namespace Go.Am
variable {θ : Where} {P : Program} {w : World}

theorem aLen_sound {σ : PT ABlock} (hM : MRel θ σ w.heap) {t ty : TypeId} {x v : AV} {cx : Value} {ts : Array TypeId} {args : Array Value} (h : aLen P σ t x = some v) (hx : VRel θ x cx)
    (h0 : ts[0]? = some t) (h1 : args[0]? = some cx) : Gives θ P w (Builtin.len_ ts ty args) v := by
  unfold aLen at h
  split at h
  case h_1 s hu =>
    rw [vrel_str] at hx; obtain ⟨s, rfl, rfl⟩ := hx; simp at h; subst h
    exact ⟨goInt s.size, by simp [Builtin.len_, h0, h1, run_underlying hu], by rw [vrel_int, bytesOf_length]; rfl⟩
  case h_2 n e hu =>
    simp at h; subst h
    exact ⟨goInt n, by simp [Builtin.len_, h0, h1, run_underlying hu], by rw [vrel_int]; rfl⟩
  case h_3 hu =>
    rw [vrel_nilslice] at hx; subst hx; simp at h; subst h
    exact ⟨goInt 0, by simp [Builtin.len_, h0, h1, run_underlying hu], by rw [vrel_int]; rfl⟩
  case h_4 hu =>
    rw [vrel_slice] at hx; obtain ⟨a, c', cb, base, rfl, _⟩ := hx; simp at h; subst h
    exact ⟨goInt _, by simp [Builtin.len_, h0, h1, run_underlying hu]; rfl, by rw [vrel_int]; rfl⟩
  case h_5 hu =>
    rw [vrel_nilmap] at hx; subst hx; simp at h; subst h
    exact ⟨goInt 0, by simp [Builtin.len_, h0, h1, run_underlying hu], by rw [vrel_int]; rfl⟩
  case h_6 b hu =>
    rw [vrel_map] at hx; obtain ⟨r, hθ, rfl⟩ := hx
    split at h
    · rename_i es cl hb
      simp at h; subst h
      obtain ⟨_, ces, hw, hr⟩ := hM b _ _ _ hb hθ
      have hlen : es.length = ces.size := by
        clear hb hw
        have : ∀ (es : List (AV × AV × Nat)) (l : List MapEntry), ERels θ es l → es.length = l.length := by
          intro es
          induction es with
          | nil => intro l h; cases l <;> simp_all [ERels]
          | cons e es ih => intro l h; cases l with
            | nil => simp [ERels] at h
            | cons c l => simp only [ERels] at h; simp [ih l h.2]
        simpa using this es ces.toList hr
      refine ⟨goInt ces.size, ?_, by rw [vrel_int, hlen]; rfl⟩
      simp [Builtin.len_, h0, h1, run_underlying hu, getObj, Sem.run, hw]
    · simp at h
  case h_7 => simp at h

theorem aCap_sound {t ty : TypeId} {x v : AV} {cx : Value} {ts : Array TypeId} {args : Array Value} (h : aCap P t x = some v) (hx : VRel θ x cx)
    (h0 : ts[0]? = some t) (h1 : args[0]? = some cx) : Gives θ P w (Builtin.cap_ ts ty args) v := by
  unfold aCap at h
  split at h
  case h_1 hu =>
    rw [vrel_nilslice] at hx; subst hx; simp at h; subst h
    exact ⟨goInt 0, by simp [Builtin.cap_, h0, h1, run_underlying hu], by rw [vrel_int]; rfl⟩
  case h_2 hu =>
    rw [vrel_slice] at hx; obtain ⟨a, c', cb, base, rfl, _, _, h3, _, _⟩ := hx; simp at h; subst h
    exact ⟨goInt c', by simp [Builtin.cap_, h0, h1, run_underlying hu], by rw [vrel_int, h3 rfl]; rfl⟩
  case h_3 => simp at h

theorem aFold_sound {f : AV → AV → Option AV} {g : Value → Value → Sem Value} (hfg : ∀ a b v ca cb, f a b = some v → VRel θ a ca → VRel θ b cb → Gives θ P w (g ca cb) v) :
    ∀ {xs : List AV} {cs : List Value} {x v : AV} {c : Value}, aFold f x xs = some v → VRel θ x c → VRels θ xs cs → Gives θ P w (cs.foldlM g c) v
  | [], [], x, v, c, h, hx, _ => by simp [aFold] at h; subst h; exact ⟨c, by simp, hx⟩
  | y :: ys, d :: ds, x, v, c, h, hx, hr => by
    simp only [aFold] at h
    simp only [VRels] at hr
    split at h
    · rename_i r hfr
      obtain ⟨cv, h1, h2⟩ := hfg _ _ _ _ _ hfr hx hr.1
      obtain ⟨cv', h3, h4⟩ := aFold_sound hfg h h2 hr.2
      exact ⟨cv', by simp [List.foldlM_cons, h1, h3], h4⟩
    · simp at h
  | [], _ :: _, _, _, _, _, _, h => by simp [VRels] at h
  | _ :: _, [], _, _, _, _, _, h => by simp [VRels] at h

theorem aMin2_sound (a b v : AV) (ca cb : Value) (h : aMin2 a b = some v) (ha : VRel θ a ca) (hb : VRel θ b cb) : Gives θ P w (Builtin.min2 ca cb) v := by
  unfold aMin2 at h
  split at h
  · rw [vrel_int] at ha hb; subst ha; subst hb; simp at h; subst h
    exact ⟨_, by simp only [Builtin.min2]; rfl, by simp [vrel_int]⟩
  · simp at h
theorem aMax2_sound (a b v : AV) (ca cb : Value) (h : aMax2 a b = some v) (ha : VRel θ a ca) (hb : VRel θ b cb) : Gives θ P w (Builtin.max2 ca cb) v := by
  unfold aMax2 at h
  split at h
  · rw [vrel_int] at ha hb; subst ha; subst hb; simp at h; subst h
    exact ⟨_, by simp only [Builtin.max2]; rfl, by simp [vrel_int]⟩
  · simp at h

theorem mapOps_eq (ρ : Operand → AV) : ∀ l, mapOps ρ l = l.map ρ
  | [] => rfl
  | x :: l => by simp [mapOps, mapOps_eq ρ l]

theorem mapOps_rel {ρ : Operand → AV} {ρ' : Operand → Value} : ∀ {l : List Operand}, (∀ x ∈ l, VRel θ (ρ x) (ρ' x)) → VRels θ (mapOps ρ l) (l.map ρ')
  | [], _ => by simp [mapOps, VRels]
  | x :: l, h => by
    simp only [mapOps, List.map_cons, VRels]
    exact ⟨h x (by simp), mapOps_rel fun y hy => h y (by simp [hy])⟩

theorem mapParts_rel {ρ : Operand → AV} {ρ' : Operand → Value} : ∀ {l : List (Nat × Operand)}, (∀ x ∈ l.map (·.2), VRel θ (ρ x) (ρ' x)) → PartsRel θ (mapParts ρ l) (l.map fun (i, x) => (i, ρ' x))
  | [], _ => .nil
  | (i, x) :: l, h => .cons (h x (by simp)) (mapParts_rel fun y hy => h y (by simp at hy ⊢; exact .inr hy))

theorem rdBuiltin_sound {σ : PT ABlock} (hM : MRel θ σ w.heap) {b : Builtin} {ts : Array TypeId} {ty : TypeId} {consts : Array Bool} {xs : List AV} {cs : Array Value} {v : AV}
    (h : rdBuiltin P σ b ts.toList xs = some v) (hx : VRels θ xs cs.toList) : ∃ cv, (builtin b ts ty consts cs).run P w = .ok (.value cv) w ∧ VRel θ v cv := by
  unfold rdBuiltin at h
  obtain ⟨ts⟩ := ts
  obtain ⟨cs⟩ := cs
  simp only at h hx
  split at h
  case h_1 t ts' x xs' =>
    cases cs with
    | nil => simp [VRels] at hx
    | cons c cs =>
      simp only [VRels] at hx
      obtain ⟨cv, h1, h2⟩ := aLen_sound (P := P) (ty := ty) (ts := ⟨t :: ts'⟩) (args := ⟨c :: cs⟩) hM h hx.1 (by simp) (by simp)
      exact ⟨cv, by simp [builtin, h1], h2⟩
  case h_2 t ts' x xs' =>
    cases cs with
    | nil => simp [VRels] at hx
    | cons c cs =>
      simp only [VRels] at hx
      obtain ⟨cv, h1, h2⟩ := aCap_sound (P := P) (w := w) (ty := ty) (ts := ⟨t :: ts'⟩) (args := ⟨c :: cs⟩) h hx.1 (by simp) (by simp)
      exact ⟨cv, by simp [builtin, h1], h2⟩
  case h_3 x xs' =>
    cases cs with
    | nil => simp [VRels] at hx
    | cons c cs =>
      simp only [VRels] at hx
      obtain ⟨cv, h1, h2⟩ := aFold_sound (P := P) (w := w) aMin2_sound h hx.1 hx.2
      exact ⟨cv, by simp [builtin, Builtin.min_, h1], h2⟩
  case h_4 x xs' =>
    cases cs with
    | nil => simp [VRels] at hx
    | cons c cs =>
      simp only [VRels] at hx
      obtain ⟨cv, h1, h2⟩ := aFold_sound (P := P) (w := w) aMax2_sound h hx.1 hx.2
      exact ⟨cv, by simp [builtin, Builtin.max_, h1], h2⟩
  case h_5 => simp at h

theorem optMap_rel {ρ : Operand → AV} {ρ' : Operand → Value} {o : Option Operand} (h : ∀ x ∈ o.toArray, VRel θ (ρ x) (ρ' x)) : ORel θ (optMap ρ o) (o.map ρ') := by
  cases o with
  | none => trivial
  | some x => exact h x (by simp)

theorem rd_sound {σ : PT ABlock} {ρ : Operand → AV} {ρ' : Operand → Value} {o : Oper} {v : AV} (hM : MRel θ σ w.heap) (hρ : ∀ x ∈ o.op.operands, VRel θ (ρ x) (ρ' x)) (h : rd P ρ σ o.op = some v) :
    ∃ cv, (execOp ρ' o).run P w = .ok (.value cv) w ∧ VRel θ v cv := by
  obtain ⟨dst, op, type, pos, after, guard⟩ := o
  simp only at hρ h
  have lift : ∀ {s : Sem Value}, Gives θ P w s v → ∃ cv, (do pure (Next.value (← s)) : Sem Next).run P w = .ok (.value cv) w ∧ VRel θ v cv := by
    rintro s ⟨cv, h1, h2⟩
    exact ⟨cv, by simp [h1], h2⟩
  unfold rd at h
  split at h
  case h_1 x => simp at h; subst h; exact ⟨ρ' x, rfl, hρ x (by simp [Op.operands])⟩
  case h_2 x => simp at h; subst h; exact ⟨ρ' x, rfl, hρ x (by simp [Op.operands])⟩
  case h_3 c a b =>
    have hc := hρ c (by simp [Op.operands])
    split at h
    · rename_i e; rw [e, vrel_bool] at hc; simp at h; subst h
      exact ⟨ρ' a, by simp [execOp, hc, asBool], hρ a (by simp [Op.operands])⟩
    · rename_i e; rw [e, vrel_bool] at hc; simp at h; subst h
      exact ⟨ρ' b, by simp [execOp, hc, asBool], hρ b (by simp [Op.operands])⟩
    · simp at h
  case h_4 t parts =>
    refine lift (aBuild_sound h ?_)
    rw [Array.toList_map]
    exact mapParts_rel fun x hx => hρ x (by simpa [Op.operands] using hx)
  case h_5 t a => exact lift (aLoad_sound hM h (hρ a (by simp [Op.operands])))
  case h_6 x =>
    have hx := hρ x (by simp [Op.operands])
    split at h <;> first
      | (simp at h; done)
      | skip
    rename_i n1 n2 n3 n4
    simp at h; subst h
    refine ⟨ρ' x, ?_, hx⟩
    simp only [execOp]
    generalize ρ x = a at *
    generalize ρ' x = c at *
    cases c <;> first
      | rfl
      | skip
    · rename_i p
      cases p with
      | none =>
        exfalso
        cases a <;> simp_all [VRel]
      | some p => rfl
    · rename_i fn f c
      cases fn with
      | method n =>
        exfalso
        cases a <;> simp_all [VRel]
      | _ => rfl
    · exfalso; cases a <;> simp_all [VRel]
    · exfalso; cases a <;> simp_all [VRel]
  case h_7 op t x y yt => exact lift (aBin_sound h (hρ x (by simp [Op.operands])) (hρ y (by simp [Op.operands])))
  case h_8 op t x => exact lift (aUn_sound h (hρ x (by simp [Op.operands])))
  case h_9 s d x => exact lift (aConv_sound hM h (hρ x (by simp [Op.operands])))
  case h_10 t x =>
    have hx := hρ x (by simp [Op.operands])
    split at h
    · simp at h
    · rename_i d hd hu
      simp at h; subst h
      refine lift ⟨.iface t (ρ' x), ?_, by rw [vrel_iface]; exact ⟨_, rfl, hx⟩⟩
      simp only [Instr.makeInterface, Sem.run_bind, run_underlying hu, Result.andThen_ok]
      cases d <;> first | rfl | simp_all
    · simp at h
  case h_11 fn a b =>
    simp at h; subst h
    refine lift ⟨.func fn (a.map ρ') (b.map ρ'), rfl, ?_⟩
    rw [vrel_func]
    refine ⟨_, _, rfl, ?_, ?_⟩
    · rw [Array.toList_map]; exact mapOps_rel fun x hx => hρ x (by simp [Op.operands]; exact .inl (by simpa using hx))
    · rw [Array.toList_map]; exact mapOps_rel fun x hx => hρ x (by simp [Op.operands]; exact .inr (by simpa using hx))
  case h_12 t x lo hi mx =>
    refine lift (aSlice_sound hM h (hρ x (by simp [Op.operands])) (optMap_rel fun y hy => hρ y ?_) (optMap_rel fun y hy => hρ y ?_) (optMap_rel fun y hy => hρ y ?_))
    · simp only [Op.operands, Array.mem_append]; exact .inl (.inl (.inr hy))
    · simp only [Op.operands, Array.mem_append]; exact .inl (.inr hy)
    · simp only [Op.operands, Array.mem_append]; exact .inr hy
  case h_13 s x f => exact lift (aFieldAddr_sound h (hρ x (by simp [Op.operands])))
  case h_14 t x f => exact lift (aField_sound h (hρ x (by simp [Op.operands])))
  case h_15 t x i => exact lift (aIndexAddr_sound h (hρ x (by simp [Op.operands])) (hρ i (by simp [Op.operands])))
  case h_16 t x i => exact lift (aIndex_sound h (hρ x (by simp [Op.operands])) (hρ i (by simp [Op.operands])))
  case h_17 t i =>
    have hx := hρ t (by simp [Op.operands])
    split at h
    · rename_i xs e
      rw [e, vrel_tuple] at hx
      obtain ⟨cs, hc, hr⟩ := hx
      obtain ⟨cv, h1, h2⟩ := vrels_get hr h
      rw [Array.getElem?_toList] at h1
      exact lift ⟨cv, by simp [Instr.extract, hc, h1], h2⟩
    · simp at h
  case h_18 c =>
    split at h
    · rename_i b hb
      obtain ⟨callee, args, ts⟩ := c
      simp only at hb h; subst hb
      have hr : VRels θ (mapOps ρ args.toList) (args.map ρ').toList := by
        rw [Array.toList_map]
        exact mapOps_rel fun x hx => hρ x (by simp [Op.operands, Call.operands]; simpa using hx)
      obtain ⟨cv, h1, h2⟩ := rdBuiltin_sound (P := P) (ty := type) (consts := args.map fun | .const _ => true | _ => false) hM h hr
      refine ⟨cv, ?_, h2⟩
      simp only [execOp, resolve, Sem.run_bind, Sem.run_pure, Result.andThen_ok, invoke]
      exact h1
    · simp at h
  case h_19 => simp at h

end Go.Am
namespace Go.Am

structure Rel (θ : Where) (σ : AHeap) (h : Array Obj) : Prop where
  mem : MRel θ σ.m h
  sep : ∀ b1 b2 k1 k2 cb o1 o2, b1 ≠ b2 → σ.m.get b1 = some k1 → σ.m.get b2 = some k2 → θ b1 = some (cb, o1) → θ b2 = some (cb, o2) →
    (k1.ro = true ∧ k2.ro = true) ∨ b1 ∈ k2.ps ∨ b2 ∈ k1.ps
  par : ∀ b1 b2 k1 k2, σ.m.get b1 = some k1 → σ.m.get b2 = some k2 → b1 ∈ k2.ps → k1.ro = true
  fresh : ∀ b, σ.next ≤ b → σ.m.get b = none
  dom : ∀ b x, θ b = some x → b < σ.next
  psb : ∀ b k p, σ.m.get b = some k → p ∈ k.ps → p < σ.next

/-- block k of the world may be written -/
def Wr (θ : Where) (σ : AHeap) (k : Nat) : Prop := ∃ b blk base, σ.m.get b = some blk ∧ blk.ro = false ∧ θ b = some (k, base)

structure Ev (θ : Where) (σ : AHeap) (w : World) (θ' : Where) (σ' : AHeap) (w' : World) : Prop where
  rel : Rel θ' σ' w'.heap
  ext : ∀ b, b < σ.next → θ' b = θ b ∧ θ'.tot b = θ.tot b
  nx : σ.next ≤ σ'.next
  os : w'.os = w.os
  tape : w'.tape = w.tape
  output : w'.output = w.output
  size : w.heap.size ≤ w'.heap.size
  frame : ∀ k, k < w.heap.size → ¬ Wr θ σ k → w'.heap[k]? = w.heap[k]?
  wr : ∀ k, k < w.heap.size → Wr θ' σ' k → Wr θ σ k

theorem Ev.refl {θ : Where} {σ : AHeap} {w : World} (h : Rel θ σ w.heap) : Ev θ σ w θ σ w :=
  ⟨h, fun _ _ => ⟨rfl, rfl⟩, Nat.le_refl _, rfl, rfl, rfl, Nat.le_refl _, fun _ _ _ => rfl, fun _ _ h => h⟩

theorem Ev.trans {θ θ' θ'' : Where} {σ σ' σ'' : AHeap} {w w' w'' : World} (h : Ev θ σ w θ' σ' w') (g : Ev θ' σ' w' θ'' σ'' w'') : Ev θ σ w θ'' σ'' w'' where
  rel := g.rel
  ext b hb := ⟨(g.ext b (Nat.lt_of_lt_of_le hb h.nx)).1.trans (h.ext b hb).1, (g.ext b (Nat.lt_of_lt_of_le hb h.nx)).2.trans (h.ext b hb).2⟩
  nx := Nat.le_trans h.nx g.nx
  os := g.os.trans h.os
  tape := g.tape.trans h.tape
  output := g.output.trans h.output
  size := Nat.le_trans h.size g.size
  frame k hk hn := (g.frame k (Nat.lt_of_lt_of_le hk h.size) fun hw => hn (h.wr k hk hw)).trans (h.frame k hk hn)
  wr k hk hw := h.wr k hk (g.wr k (Nat.lt_of_lt_of_le hk h.size) hw)

/-- what is as it was but for draws -/
theorem Ev.congr {θ : Where} {σ : AHeap} {w w1 : World} {θ' : Where} {σ' : AHeap} {w' : World} (h : Ev θ σ w θ' σ' w') (e1 : w1.heap = w.heap) (e2 : w1.os = w.os) (e3 : w1.tape = w.tape) (e4 : w1.output = w.output) :
    Ev θ σ w1 θ' σ' w' :=
  ⟨h.rel, h.ext, h.nx, h.os.trans e2.symm, h.tape.trans e3.symm, h.output.trans e4.symm, by rw [e1]; exact h.size, fun k hk hn => by rw [e1]; exact h.frame k (by rw [← e1]; exact hk) hn, fun k hk => h.wr k (by rw [← e1]; exact hk)⟩

theorem Ev.le {θ θ' : Where} {σ σ' : AHeap} {w w' : World} (h : Ev θ σ w θ' σ' w') (hR : Rel θ σ w.heap) : θ.le θ' :=
  fun b x hx => ⟨(h.ext b (hR.dom b x hx)).1.trans hx, (h.ext b (hR.dom b x hx)).2⟩

theorem erels_mono {θ θ' : Where} (h : θ.le θ') : ∀ {es : List (AV × AV × Nat)} {l : List MapEntry}, ERels θ es l → ERels θ' es l
  | [], [], _ => trivial
  | e :: es, c :: l, r => by
    simp only [ERels] at r ⊢
    exact ⟨⟨VRel.mono h _ _ r.1.1, VRel.mono h _ _ r.1.2.1, r.1.2.2⟩, erels_mono h r.2⟩
  | [], _ :: _, r => by simp [ERels] at r
  | _ :: _, [], r => by simp [ERels] at r

theorem BRel.mono {θ θ' : Where} (h : θ.le θ') {blk : ABlock} {o : Option Obj} {base tot : Nat} (r : BRel θ blk o base tot) : BRel θ' blk o base tot := by
  cases blk with
  | cells xs ro fz ps =>
    obtain ⟨c, el, lo, hi, h1, h4, h5, h2, h3⟩ := r
    exact ⟨c, el, lo, hi, h1, h4, h5, fun i v hv => let ⟨cv, k1, k2⟩ := h2 i v hv; ⟨cv, k1, VRel.mono h v cv k2⟩, h3⟩
  | map es clock =>
    obtain ⟨h1, ces, h2, h3⟩ := r
    exact ⟨h1, ces, h2, erels_mono h h3⟩
  | siter s pos => exact r

theorem BRel.isSome {θ : Where} {blk : ABlock} {o : Option Obj} {base tot : Nat} (r : BRel θ blk o base tot) : o.isSome = true := by
  cases blk with
  | cells xs ro fz ps => obtain ⟨c, el, lo, hi, h1, _⟩ := r; simp [h1]
  | map es clock => obtain ⟨_, ces, h2, _⟩ := r; simp [h2]
  | siter s pos => obtain ⟨_, _, h2, _⟩ := r; simp [h2]

theorem MRel.lt {θ : Where} {σ : PT ABlock} {h : Array Obj} (hM : MRel θ σ h) {b : Nat} {blk : ABlock} {cb base : Nat} (hb : σ.get b = some blk) (hθ : θ b = some (cb, base)) : cb < h.size := by
  have := (hM b blk cb base hb hθ).isSome
  rcases Nat.lt_or_ge cb h.size with h' | h'
  · exact h'
  · simp [Array.getElem?_eq_none h'] at this

def AHeap.push (σ : AHeap) (blk : ABlock) : AHeap := ⟨σ.m.set σ.next blk, σ.next + 1⟩

def Where.put (θ : Where) (b : Nat) (x : Nat × Nat) (t : Nat) : Where := ⟨fun c => if c = b then some x else θ c, fun c => if c = b then t else θ.tot c⟩

theorem Where.put_same (θ : Where) (b : Nat) (x : Nat × Nat) (t : Nat) : θ.put b x t b = some x := by simp [Where.put]
theorem Where.put_ne (θ : Where) {b c : Nat} (x : Nat × Nat) (t : Nat) (h : c ≠ b) : θ.put b x t c = θ c := by simp [Where.put, h]
theorem Where.put_tot (θ : Where) (b : Nat) (x : Nat × Nat) (t : Nat) : (θ.put b x t).tot b = t := by simp [Where.put]
theorem Where.put_tot_ne (θ : Where) {b c : Nat} (x : Nat × Nat) (t : Nat) (h : c ≠ b) : (θ.put b x t).tot c = θ.tot c := by simp [Where.put, h]

theorem put_le {θ : Where} {σ : AHeap} {h : Array Obj} (hR : Rel θ σ h) (x : Nat × Nat) (t : Nat) : θ.le (θ.put σ.next x t) := by
  intro b y hy
  have := hR.dom b y hy
  rw [Where.put_ne _ _ _ (by omega), Where.put_tot_ne _ _ _ (by omega)]; exact ⟨hy, rfl⟩

/-- a new block -/
theorem ev_push {θ : Where} {σ : AHeap} {w : World} (hR : Rel θ σ w.heap) {o : Obj} {blk : ABlock} (t : Nat) (hps : blk.ps = []) (hB : BRel (θ.put σ.next (w.heap.size, 0) t) blk (some o) 0 t) :
    Ev θ σ w (θ.put σ.next (w.heap.size, 0) t) (σ.push blk) (w.alloc o) := by
  have hle := put_le hR (w.heap.size, 0) t
  have hget : ∀ b k, (σ.push blk).m.get b = some k → (b = σ.next ∧ k = blk) ∨ (b < σ.next ∧ σ.m.get b = some k) := by
    intro b k hk
    simp only [AHeap.push, PT.get_set] at hk
    by_cases e : σ.next = b
    · simp [e] at hk; exact .inl ⟨e.symm, hk.symm⟩
    · rw [if_neg e] at hk
      refine .inr ⟨?_, hk⟩
      rcases Nat.lt_or_ge b σ.next with h | h
      · exact h
      · rw [hR.fresh b h] at hk; simp at hk
  have hold : ∀ b, b < σ.next → θ.put σ.next (w.heap.size, 0) t b = θ b := fun b hb => Where.put_ne _ _ _ (by omega)
  have holdt : ∀ b, b < σ.next → (θ.put σ.next (w.heap.size, 0) t).tot b = θ.tot b := fun b hb => Where.put_tot_ne _ _ _ (by omega)
  have hheap : ∀ k, k < w.heap.size → (w.alloc o).heap[k]? = w.heap[k]? := by
    intro k hk
    show (w.heap.push o)[k]? = _
    rw [Array.getElem?_push, if_neg (by omega)]
  refine ⟨⟨?_, ?_, ?_, ?_, ?_, ?_⟩, fun b hb => ⟨hold b hb, holdt b hb⟩, by simp [AHeap.push], rfl, rfl, rfl, by simp, fun k hk _ => hheap k hk, ?_⟩
  · intro b k cb base hb hθ
    rcases hget b k hb with ⟨rfl, rfl⟩ | ⟨hlt, hk⟩
    · rw [Where.put_same] at hθ; simp at hθ
      obtain ⟨rfl, rfl⟩ := hθ
      have : (w.alloc o).heap[w.heap.size]? = some o := by show (w.heap.push o)[_]? = _; simp
      rw [this, Where.put_tot]; exact hB
    · rw [hold b hlt] at hθ
      rw [hheap cb (hR.mem.lt hk hθ), holdt b hlt]
      exact (hR.mem b k cb base hk hθ).mono hle
  · intro b1 b2 k1 k2 cb o1 o2 hne h1 h2 t1 t2
    rcases hget b1 k1 h1 with ⟨rfl, rfl⟩ | ⟨l1, g1⟩
    · rcases hget b2 k2 h2 with ⟨rfl, rfl⟩ | ⟨l2, g2⟩
      · exact (hne rfl).elim
      · rw [Where.put_same] at t1; rw [hold _ l2] at t2
        simp at t1
        have := hR.mem.lt g2 t2
        omega
    · rcases hget b2 k2 h2 with ⟨rfl, rfl⟩ | ⟨l2, g2⟩
      · rw [Where.put_same] at t2; rw [hold _ l1] at t1
        simp at t2
        have := hR.mem.lt g1 t1
        omega
      · rw [hold _ l1] at t1; rw [hold _ l2] at t2
        exact hR.sep b1 b2 k1 k2 cb o1 o2 hne g1 g2 t1 t2
  · intro b1 b2 k1 k2 h1 h2 hm
    rcases hget b2 k2 h2 with ⟨rfl, rfl⟩ | ⟨l2, g2⟩
    · rw [hps] at hm; simp at hm
    · rcases hget b1 k1 h1 with ⟨rfl, rfl⟩ | ⟨l1, g1⟩
      · have := hR.psb b2 k2 σ.next g2 hm
        omega
      · exact hR.par b1 b2 k1 k2 g1 g2 hm
  · intro b hb
    simp only [AHeap.push] at hb ⊢
    rw [PT.get_set, if_neg (by omega)]
    exact hR.fresh b (by omega)
  · intro b x hx
    simp only [AHeap.push]
    by_cases e : b = σ.next
    · omega
    · rw [Where.put_ne _ _ _ e] at hx
      have := hR.dom b x hx
      omega
  · intro b k p hb hp
    simp only [AHeap.push]
    rcases hget b k hb with ⟨rfl, rfl⟩ | ⟨hlt, hg⟩
    · rw [hps] at hp; simp at hp
    · have := hR.psb b k p hg hp
      omega
  · rintro k hk ⟨b, kb, base, hb, hro, hθ⟩
    rcases hget b kb hb with ⟨rfl, rfl⟩ | ⟨hlt, hg⟩
    · rw [Where.put_same] at hθ; simp at hθ; omega
    · rw [hold b hlt] at hθ
      exact ⟨b, kb, base, hg, hro, hθ⟩

end Go.Am
namespace Go.Am
variable {θ : Where} {P : Program} {w : World}

def delAll {α : Type} : List Nat → PT α → PT α
  | [], m => m
  | p :: ps, m => delAll ps (m.del p)

theorem get_delAll {α : Type} : ∀ (ps : List Nat) (m : PT α) (b : Nat), (delAll ps m).get b = if b ∈ ps then none else m.get b
  | [], m, b => by simp [delAll]
  | p :: ps, m, b => by
    simp only [delAll, get_delAll ps, PT.get_del, List.mem_cons]
    by_cases h : b ∈ ps
    · simp [h]
    · by_cases e : b = p
      · subst e; simp
      · simp [h, e, show p ≠ b from fun x => e x.symm]

def AHeap.put (σ : AHeap) (b : Nat) (blk : ABlock) (ps : List Nat) : AHeap := ⟨delAll ps (σ.m.set b blk), σ.next⟩

theorem ev_set {σ : AHeap} (hR : Rel θ σ w.heap) {b : Nat} {blk blk' : ABlock} {cb base : Nat} {w' : World} (hb : σ.m.get b = some blk) (hro : blk.ro = false) (hθ : θ b = some (cb, base)) (hps' : blk'.ps = [])
    (hsize : w'.heap.size = w.heap.size) (hother : ∀ k, k ≠ cb → w'.heap[k]? = w.heap[k]?) (h1 : w'.os = w.os) (h2 : w'.tape = w.tape) (h3 : w'.output = w.output)
    (hB : BRel θ blk' w'.heap[cb]? base (θ.tot b)) : Ev θ σ w θ (σ.put b blk' blk.ps) w' := by
  have hget : ∀ c k, (σ.put b blk' blk.ps).m.get c = some k → (c = b ∧ k = blk') ∨ (c ≠ b ∧ c ∉ blk.ps ∧ σ.m.get c = some k) := by
    intro c k hk
    simp only [AHeap.put, get_delAll, PT.get_set] at hk
    by_cases e : c ∈ blk.ps
    · simp [e] at hk
    · rw [if_neg e] at hk
      by_cases e2 : b = c
      · rw [if_pos e2] at hk; exact .inl ⟨e2.symm, by simpa using hk.symm⟩
      · rw [if_neg e2] at hk; exact .inr ⟨fun x => e2 x.symm, e, hk⟩
  refine ⟨⟨?_, ?_, ?_, ?_, hR.dom, ?_⟩, fun _ _ => ⟨rfl, rfl⟩, Nat.le_refl _, h1, h2, h3, by omega, ?_, ?_⟩
  · intro c k cc cbase hc hθc
    rcases hget c k hc with ⟨rfl, rfl⟩ | ⟨hne, hnp, hg⟩
    · rw [hθ] at hθc; simp at hθc; obtain ⟨rfl, rfl⟩ := hθc; exact hB
    · by_cases e : cc = cb
      · subst e
        rcases hR.sep c b k blk cc cbase base hne hg hb hθc hθ with ⟨_, hr⟩ | hm | hm
        · rw [hro] at hr; simp at hr
        · exact (hnp hm).elim
        · have := hR.par b c blk k hb hg hm; rw [hro] at this; simp at this
      · rw [hother cc e]; exact hR.mem c k cc cbase hg hθc
  · intro b1 b2 k1 k2 cc o1 o2 hne g1 g2 t1 t2
    rcases hget b1 k1 g1 with ⟨rfl, rfl⟩ | ⟨n1, p1, g1'⟩
    · rcases hget b2 k2 g2 with ⟨rfl, rfl⟩ | ⟨n2, p2, g2'⟩
      · exact (hne rfl).elim
      · rcases hR.sep b1 b2 blk k2 cc o1 o2 hne hb g2' t1 t2 with ⟨hr, _⟩ | hm | hm
        · rw [hro] at hr; simp at hr
        · exact .inr (.inl hm)
        · exact (p2 hm).elim
    · rcases hget b2 k2 g2 with ⟨rfl, rfl⟩ | ⟨n2, p2, g2'⟩
      · rcases hR.sep b1 b2 k1 blk cc o1 o2 hne g1' hb t1 t2 with ⟨_, hr⟩ | hm | hm
        · rw [hro] at hr; simp at hr
        · exact (p1 hm).elim
        · exact .inr (.inr hm)
      · exact hR.sep b1 b2 k1 k2 cc o1 o2 hne g1' g2' t1 t2
  · intro b1 b2 k1 k2 g1 g2 hm
    rcases hget b2 k2 g2 with ⟨rfl, rfl⟩ | ⟨n2, p2, g2'⟩
    · rw [hps'] at hm; simp at hm
    · rcases hget b1 k1 g1 with ⟨rfl, rfl⟩ | ⟨n1, p1, g1'⟩
      · have := hR.par b1 b2 blk k2 hb g2' hm; rw [hro] at this; simp at this
      · exact hR.par b1 b2 k1 k2 g1' g2' hm
  · intro c hc
    simp only [AHeap.put, get_delAll, PT.get_set]
    split
    · rfl
    · rw [if_neg]
      · exact hR.fresh c hc
      · intro e; subst e
        have := hR.fresh b hc
        rw [this] at hb; simp at hb
  · intro c k p hc hp
    rcases hget c k hc with ⟨rfl, rfl⟩ | ⟨_, _, hg⟩
    · rw [hps'] at hp; simp at hp
    · exact hR.psb c k p hg hp
  · intro k hk hn
    refine hother k fun e => hn ?_
    subst e
    exact ⟨b, blk, base, hb, hro, hθ⟩
  · rintro k hk ⟨c, kc, cbase, hc, hr, ht⟩
    rcases hget c kc hc with ⟨rfl, rfl⟩ | ⟨_, _, hg⟩
    · rw [hθ] at ht; simp at ht; obtain ⟨rfl, rfl⟩ := ht
      exact ⟨c, blk, _, hb, hro, hθ⟩
    · exact ⟨c, kc, cbase, hg, hr, ht⟩

/-- forgetting blocks, and making them read-only -/
theorem ev_forget {σ : AHeap} {w : World} (hR : Rel θ σ w.heap) (m' : PT ABlock) (h : ∀ c k, m'.get c = some k → ∃ k0, σ.m.get c = some k0 ∧ (k = k0 ∨ ∃ xs fz ps, k0 = .cells xs false fz ps ∧ k = .cells xs true fz ps)) :
    Ev θ σ w θ ⟨m', σ.next⟩ w := by
  have hk : ∀ {k k0 : ABlock}, (k = k0 ∨ ∃ xs fz ps, k0 = .cells xs false fz ps ∧ k = .cells xs true fz ps) → k.ps = k0.ps ∧ (k0.ro = true → k.ro = true) ∧ (k.ro = false → k0.ro = false) := by
    rintro k k0 (rfl | ⟨xs, fz, ps, rfl, rfl⟩)
    · exact ⟨rfl, fun h => h, fun h => h⟩
    · exact ⟨rfl, fun h => by simp [ABlock.ro], fun h => by simp [ABlock.ro] at h⟩
  refine ⟨⟨?_, ?_, ?_, ?_, hR.dom, ?_⟩, fun _ _ => ⟨rfl, rfl⟩, Nat.le_refl _, rfl, rfl, rfl, Nat.le_refl _, fun _ _ _ => rfl, ?_⟩
  · intro c k cb base hc hθ
    obtain ⟨k0, hg, e⟩ := h c k hc
    have := hR.mem c k0 cb base hg hθ
    rcases e with rfl | ⟨xs, fz, ps, rfl, rfl⟩
    · exact this
    · obtain ⟨cc, el, lo, hi, h1, h2, h3, h4, _⟩ := this
      exact ⟨cc, el, lo, hi, h1, h2, h3, h4, fun e => by simp at e⟩
  · intro b1 b2 k1 k2 cb o1 o2 hne g1 g2 t1 t2
    obtain ⟨j1, hg1, e1⟩ := h b1 k1 g1
    obtain ⟨j2, hg2, e2⟩ := h b2 k2 g2
    rw [(hk e1).1, (hk e2).1]
    rcases hR.sep b1 b2 j1 j2 cb o1 o2 hne hg1 hg2 t1 t2 with ⟨r1, r2⟩ | hm | hm
    · exact .inl ⟨(hk e1).2.1 r1, (hk e2).2.1 r2⟩
    · exact .inr (.inl hm)
    · exact .inr (.inr hm)
  · intro b1 b2 k1 k2 g1 g2 hm
    obtain ⟨j1, hg1, e1⟩ := h b1 k1 g1
    obtain ⟨j2, hg2, e2⟩ := h b2 k2 g2
    rw [(hk e2).1] at hm
    exact (hk e1).2.1 (hR.par b1 b2 j1 j2 hg1 hg2 hm)
  · intro b hb
    cases e : m'.get b with
    | none => simp [e]
    | some k =>
      obtain ⟨k0, hg, _⟩ := h b k e
      rw [hR.fresh b hb] at hg; simp at hg
  · intro b k p hb hp
    obtain ⟨k0, hg, e⟩ := h b k hb
    rw [(hk e).1] at hp
    exact hR.psb b k0 p hg hp
  · rintro k _ ⟨b, kb, base, hb, hr, ht⟩
    obtain ⟨k0, hg, e⟩ := h b kb hb
    exact ⟨b, k0, base, hg, (hk e).2.2 hr, ht⟩

/-- an array that is appended to in its place: a new block for the old one -/
theorem ev_regrow {σ : AHeap} (hR : Rel θ σ w.heap) {b : Nat} {blk blk' : ABlock} {cb base base' : Nat} {w' : World} (hb : σ.m.get b = some blk) (hro : blk.ro = false) (hθ : θ b = some (cb, base)) (hps' : blk'.ps = [])
    (hsize : w'.heap.size = w.heap.size) (hother : ∀ k, k ≠ cb → w'.heap[k]? = w.heap[k]?) (h1 : w'.os = w.os) (h2 : w'.tape = w.tape) (h3 : w'.output = w.output)
    (hB : BRel (θ.put σ.next (cb, base') (θ.tot b)) blk' w'.heap[cb]? base' (θ.tot b)) :
    Ev θ σ w (θ.put σ.next (cb, base') (θ.tot b)) ⟨(delAll blk.ps (σ.m.del b)).set σ.next blk', σ.next + 1⟩ w' := by
  have hle := put_le hR (cb, base') (θ.tot b)
  have hold : ∀ c, c < σ.next → θ.put σ.next (cb, base') (θ.tot b) c = θ c := fun c hc => Where.put_ne _ _ _ (by omega)
  have holdt : ∀ c, c < σ.next → (θ.put σ.next (cb, base') (θ.tot b)).tot c = θ.tot c := fun c hc => Where.put_tot_ne _ _ _ (by omega)
  have hget : ∀ c k, ((delAll blk.ps (σ.m.del b)).set σ.next blk').get c = some k → (c = σ.next ∧ k = blk') ∨ (c ≠ b ∧ c ∉ blk.ps ∧ c < σ.next ∧ σ.m.get c = some k) := by
    intro c k hk
    rw [PT.get_set] at hk
    by_cases e2 : σ.next = c
    · rw [if_pos e2] at hk; exact .inl ⟨e2.symm, by simpa using hk.symm⟩
    · rw [if_neg e2, get_delAll, PT.get_del] at hk
      by_cases e : c ∈ blk.ps
      · simp [e] at hk
      · rw [if_neg e] at hk
        by_cases e3 : b = c
        · rw [if_pos e3] at hk; simp at hk
        · rw [if_neg e3] at hk
          refine .inr ⟨fun x => e3 x.symm, e, ?_, hk⟩
          rcases Nat.lt_or_ge c σ.next with h | h
          · exact h
          · rw [hR.fresh c h] at hk; simp at hk
  have hnot : ∀ c k o, c ≠ b → c ∉ blk.ps → σ.m.get c = some k → θ c ≠ some (cb, o) := by
    intro c k o hne hnp hg ht
    rcases hR.sep c b k blk cb o base hne hg hb ht hθ with ⟨_, hr⟩ | hm | hm
    · rw [hro] at hr; simp at hr
    · exact hnp hm
    · have := hR.par b c blk k hb hg hm; rw [hro] at this; simp at this
  refine ⟨⟨?_, ?_, ?_, ?_, ?_, ?_⟩, fun c hc => ⟨hold c hc, holdt c hc⟩, by simp, h1, h2, h3, by omega, ?_, ?_⟩
  · intro c k cc cbase hc hθc
    rcases hget c k hc with ⟨rfl, rfl⟩ | ⟨hne, hnp, hlt, hg⟩
    · rw [Where.put_same] at hθc; simp at hθc; obtain ⟨rfl, rfl⟩ := hθc
      rw [Where.put_tot]; exact hB
    · rw [hold c hlt] at hθc
      rw [holdt c hlt, hother cc fun e => hnot c k cbase hne hnp hg (e ▸ hθc)]
      exact (hR.mem c k cc cbase hg hθc).mono hle
  · intro b1 b2 k1 k2 cc o1 o2 hne g1 g2 t1 t2
    rcases hget b1 k1 g1 with ⟨e1, _⟩ | ⟨n1, p1, l1, g1'⟩
    · rcases hget b2 k2 g2 with ⟨e2, _⟩ | ⟨n2, p2, l2, g2'⟩
      · exact (hne (e1.trans e2.symm)).elim
      · rw [e1, Where.put_same] at t1; simp at t1
        rw [hold b2 l2, ← t1.1] at t2
        exact (hnot b2 k2 _ n2 p2 g2' t2).elim
    · rcases hget b2 k2 g2 with ⟨e2, _⟩ | ⟨n2, p2, l2, g2'⟩
      · rw [e2, Where.put_same] at t2; simp at t2
        rw [hold b1 l1, ← t2.1] at t1
        exact (hnot b1 k1 _ n1 p1 g1' t1).elim
      · rw [hold b1 l1] at t1; rw [hold b2 l2] at t2
        exact hR.sep b1 b2 k1 k2 cc o1 o2 hne g1' g2' t1 t2
  · intro b1 b2 k1 k2 g1 g2 hm
    rcases hget b2 k2 g2 with ⟨e2, e3⟩ | ⟨n2, p2, l2, g2'⟩
    · rw [e3, hps'] at hm; simp at hm
    · rcases hget b1 k1 g1 with ⟨e1, _⟩ | ⟨n1, p1, l1, g1'⟩
      · have := hR.psb b2 k2 b1 g2' hm; omega
      · exact hR.par b1 b2 k1 k2 g1' g2' hm
  · intro c hc
    simp only at hc ⊢
    rw [PT.get_set, if_neg (by omega), get_delAll, PT.get_del]
    split
    · rfl
    · split
      · rfl
      · exact hR.fresh c (by omega)
  · intro c x hx
    simp only
    by_cases e : c = σ.next
    · omega
    · rw [Where.put_ne _ _ _ e] at hx
      have := hR.dom c x hx
      omega
  · intro c k p hc hp
    simp only
    rcases hget c k hc with ⟨_, e3⟩ | ⟨_, _, _, hg⟩
    · rw [e3, hps'] at hp; simp at hp
    · have := hR.psb c k p hg hp
      omega
  · intro k hk hn
    refine hother k fun e => hn ?_
    subst e
    exact ⟨b, blk, base, hb, hro, hθ⟩
  · rintro k hk ⟨c, kc, cbase, hc, hr, ht⟩
    rcases hget c kc hc with ⟨e1, _⟩ | ⟨_, _, hlt, hg⟩
    · rw [e1, Where.put_same] at ht; simp at ht; obtain ⟨rfl, rfl⟩ := ht
      exact ⟨b, blk, _, hb, hro, hθ⟩
    · rw [hold c hlt] at ht
      exact ⟨c, kc, cbase, hg, hr, ht⟩

/-- cells that are stored one behind the other -/
theorem storeCells_run : ∀ (vs : List Value) (i cb s : Nat) (c : Array Value) (el : TypeId) (lo hi : Nat) (w : World), w.heap[cb]? = some (.cells c el (lo, hi)) → s + i + vs.length ≤ c.size →
    (∀ j, j < vs.length → ¬ (lo ≤ s + i + j ∧ s + i + j < hi)) → (∀ v ∈ vs, v.oneCell' = true) →
    ∃ w' c', (storeCells ⟨cb, s, none⟩ vs i).run P w = .ok () w' ∧ w'.heap.size = w.heap.size ∧ (∀ k, k ≠ cb → w'.heap[k]? = w.heap[k]?) ∧ w'.os = w.os ∧ w'.tape = w.tape ∧ w'.output = w.output ∧
      w'.heap[cb]? = some (.cells c' el (lo, hi)) ∧ c'.size = c.size ∧ ∀ j, c'[j]? = if s + i ≤ j ∧ j < s + i + vs.length then vs[j - (s + i)]? else c[j]?
  | [], i, cb, s, c, el, lo, hi, w, hw, hl, hf, h1 => ⟨w, c, rfl, rfl, fun _ _ => rfl, rfl, rfl, rfl, hw, rfl, fun j => by rw [if_neg (by simp only [List.length_nil]; omega)]⟩
  | v :: vs, i, cb, s, c, el, lo, hi, w, hw, hl, hf, h1 => by
    simp only [List.length_cons] at hl hf
    have hlt : s + i < c.size := by omega
    have hcell : w.cell? ⟨cb, s + i, none⟩ = some c[s + i] := by simp [World.cell?, hw, Array.getElem?_eq_getElem hlt]
    have hfr : w.frozen? ⟨cb, s + i, none⟩ = false := by
      have := hf 0 (by omega)
      simp only [World.frozen?, hw]
      simp; omega
    have hst : (store ((⟨cb, s, none⟩ : Addr).add i) v).run P w = .ok () (w.setCell ⟨cb, s + i, none⟩ v) := by
      rw [addr_add, run_store P w _ v _ (h1 v (by simp)), hcell, hfr]; simp
    have hw1 : (w.setCell ⟨cb, s + i, none⟩ v).heap[cb]? = some (.cells (c.setIfInBounds (s + i) v) el (lo, hi)) := by
      simp [World.setCell, Array.getElem?_modify, hw]
    have hoth : ∀ k, k ≠ cb → (w.setCell ⟨cb, s + i, none⟩ v).heap[k]? = w.heap[k]? := by
      intro k hk
      simp only [World.setCell, Array.getElem?_modify]
      rw [if_neg (fun e => hk e.symm)]
    obtain ⟨w', c', r1, r2, r3, r4, r5, r6, r7, r8, r9⟩ := storeCells_run vs (i + 1) cb s (c.setIfInBounds (s + i) v) el lo hi (w.setCell ⟨cb, s + i, none⟩ v) hw1 (by simp; omega)
      (fun j hj => by have := hf (j + 1) (by omega); rw [show s + (i + 1) + j = s + i + (j + 1) by omega]; exact this) (fun x hx => h1 x (by simp [hx]))
    refine ⟨w', c', by simp only [storeCells, Sem.run_bind, hst, Result.andThen_ok, r1], by rw [r2]; simp, fun k hk => (r3 k hk).trans (hoth k hk), r4, r5, r6, r7, by simpa using r8, fun j => ?_⟩
    rw [r9 j]
    simp only [List.length_cons]
    by_cases a1 : s + (i + 1) ≤ j ∧ j < s + (i + 1) + vs.length
    · rw [if_pos a1, if_pos (by omega)]
      rw [show j - (s + i) = (j - (s + (i + 1))) + 1 by omega]; simp
    · rw [if_neg a1]
      by_cases a2 : j = s + i
      · subst a2
        rw [if_pos (by omega)]
        simp [Array.getElem?_setIfInBounds, hlt]
      · rw [if_neg (by omega)]
        simp [Array.getElem?_setIfInBounds, show s + i ≠ j from fun e => a2 e.symm]

end Go.Am
namespace Go.Am
variable {θ : Where} {P : Program} {w : World}

/-! Operations that write or make memory. -/

def oneAll : List AV → Bool
  | [] => true
  | .agg _ :: _ => false
  | .tuple _ :: _ => false
  | _ :: l => oneAll l

def aStore (P : Program) (σ : AHeap) (t : TypeId) (p v : AV) : Option AHeap :=
  match p with
  | .ptr b o => match σ.m.get b with
    | some (.cells xs false fz ps) => match tySize P t with
      | some n => match Nat.beq (aCells v).length n, oneAll (aCells v), Nat.ble fz o with
        | true, true, true => match lay xs o (aCells v) with
          | some r => some (σ.put b (.cells r false fz []) ps)
          | none => none
        | _, _, _ => none
      | none => none
    | _ => none
  | _ => none

def rep : Nat → List AV → List AV
  | 0, _ => []
  | n + 1, z => z ++ rep n z

def aBuildSlice (P : Program) (σ : AHeap) (t : TypeId) (len : Nat) (parts : List (Nat × AV)) : Option (AV × AHeap) :=
  match P.underlying t with
  | some (.slice e) => match tySize P e, zeroOf P e with
    | some sz, some z => match Nat.ble (len * sz) 16777216, Nat.beq (aCells z).length sz with
      | true, true => match aFill (fun i => some (i * sz, sz)) parts (rep len (aCells z)) with
        | some r => some (.slice σ.next 0 len len true sz, σ.push (.cells r false 0 []))
        | none => none
      | _, _ => none
    | _, _ => none
  | _ => none

def aMakeSlice (P : Program) (σ : AHeap) (t : TypeId) (l c : AV) : Option (AV × AHeap) :=
  match P.underlying t, l, c with
  | some (.slice e), .int _ l, .int _ c => match P.info? e, zeroOf P e with
    | some i, some z =>
      if 0 ≤ l ∧ l ≤ c ∧ i.bytes * c ≤ 281474976710656 ∧ c < 4611686018427387904 ∧ (aCells z).length = i.size then
        some (.slice σ.next 0 l.toNat c.toNat true i.size, σ.push (.cells (rep c.toNat (aCells z)) false 0 []))
      else none
    | _, _ => none
  | _, _, _ => none

def bytesAV : List Nat → List AV
  | [] => []
  | n :: l => .int .u8 n :: bytesAV l

/-- the cells of a slice or a string, as they are appended or copied -/
def aSrc (σ : PT ABlock) (sz : Nat) (n : Nat) (x : AV) : Option (List AV) :=
  match x with
  | .nilslice => some []
  | .slice b o _ _ _ _ => match n * sz with
    | 0 => some []
    | k => match σ.get b with
      | some (.cells xs _ _ _) => sub xs o k
      | _ => none
  | .str l => some (bytesAV (l.take n))
  | _ => none

def aLenOf : AV → Option Nat
  | .nilslice => some 0
  | .slice _ _ n _ _ _ => some n
  | .str l => some l.length
  | _ => none

def isIntTy : TypeDesc → Bool
  | .int _ => true
  | _ => false

/-- append behind a slice with room -/
def aPutAt (σ : AHeap) (b o fz' : Nat) (new : List AV) : Option AHeap :=
  match new with
  | [] => some σ
  | new => match σ.m.get b with
    | some (.cells xs false fz ps) => match oneAll new, Nat.ble fz o with
      | true, true => match lay xs o new with
        | some r => some (σ.put b (.cells r false (fz + fz') []) ps)
        | none => none
      | _, _ => none
    | _ => none

def aAppend (P : Program) (σ : AHeap) (ts : List TypeId) (xs : List AV) : Option (AV × AHeap) :=
  match ts, xs with
  | st :: xt :: _, s :: x :: _ => match P.underlying st, P.underlying xt with
    | some (.slice e), some d => match isIntTy d, P.info? e, zeroOf P e, aLenOf x with
      | false, some i, some z, some n => match aSrc σ.m i.size n x with
        | some new => match s with
          | .nilslice => match n with
            | 0 => some (.nilslice, σ)
            | n => if n * i.bytes ≤ 140737488355328 ∧ n ≤ 4611686018427387904 ∧ new.length = n * i.size ∧ (aCells z).length = i.size then
                some (.slice σ.next 0 n n false i.size, σ.push (.cells new false 0 []))
              else none
          | .slice b o sl c ex zz => match Nat.beq zz i.size with
            | false => none
            | true => match Nat.ble (sl + n) c with
              | true => match aPutAt σ b (o + sl * i.size) 0 new with
                | some σ' => some (.slice b o (sl + n) c ex zz, σ')
                | none => none
              | false => match n with
                | 0 => some (.slice b o sl c ex zz, σ)
                | n => if (sl + n) * i.bytes ≤ 140737488355328 ∧ sl + n ≤ 4611686018427387904 ∧ new.length = n * i.size ∧ (aCells z).length = i.size then
                    match aSrc σ.m i.size sl s with
                    | some old => if old.length = sl * i.size then
                        match ex with
                        | true => some (.slice σ.next 0 (sl + n) (sl + n) false i.size, σ.push (.cells (old ++ new) false 0 []))
                        | false => match σ.m.get b with
                          | some (.cells xs false fz ps) => match oneAll new, Nat.ble fz (o + sl * i.size) with
                            | true, true => some (.slice σ.next 0 (sl + n) (sl + n) false i.size,
                                ⟨(delAll ps (σ.m.del b)).set σ.next (.cells (old ++ new) false (fz - o) []), σ.next + 1⟩)
                            | _, _ => none
                          | _ => none
                      else none
                    | none => none
                  else none
          | _ => none
        | none => none
      | _, _, _, _ => none
    | _, _ => none
  | _, _ => none

def aCopy (P : Program) (σ : AHeap) (ts : List TypeId) (xs : List AV) : Option (AV × AHeap) :=
  match ts, xs with
  | dt :: _, d :: x :: _ => match P.underlying dt with
    | some (.slice e) => match P.info? e, aLenOf d, aLenOf x with
      | some i, some dl, some n => match aSrc σ.m i.size (min n dl) x with
        | some new => match d with
          | .nilslice => some (.int .i64 ((min n dl : Nat) : Int), σ)
          | .slice b o _ _ _ _ => match aPutAt σ b o 0 new with
            | some σ' => some (.int .i64 ((min n dl : Nat) : Int), σ')
            | none => none
          | _ => none
        | none => none
      | _, _, _ => none
    | _ => none
  | _, _ => none

def nthD : List Nat → Nat → Nat
  | [], _ => 0
  | x :: _, 0 => x
  | _ :: l, k + 1 => nthD l k
def contL : List Nat → Nat → Bool
  | [], _ => false
  | x :: _, 0 => x / 64 == 2
  | _ :: l, k + 1 => contL l k
/-- the rune at the begin of some bytes, and how many they are -/
def dec (l : List Nat) : Nat × Nat :=
  if nthD l 0 < 0x80 then (nthD l 0, 1)
  else if nthD l 0 / 32 == 6 && contL l 1 then
    if (nthD l 0 % 32) * 64 + nthD l 1 % 64 ≥ 0x80 then ((nthD l 0 % 32) * 64 + nthD l 1 % 64, 2) else (Utf8.runeError, 1)
  else if nthD l 0 / 16 == 14 && contL l 1 && contL l 2 then
    if (nthD l 0 % 16) * 4096 + (nthD l 1 % 64) * 64 + nthD l 2 % 64 ≥ 0x800 && Utf8.valid ((nthD l 0 % 16) * 4096 + (nthD l 1 % 64) * 64 + nthD l 2 % 64 : Nat) then
      ((nthD l 0 % 16) * 4096 + (nthD l 1 % 64) * 64 + nthD l 2 % 64, 3) else (Utf8.runeError, 1)
  else if nthD l 0 / 8 == 30 && contL l 1 && contL l 2 && contL l 3 then
    if (nthD l 0 % 8) * 262144 + (nthD l 1 % 64) * 4096 + (nthD l 2 % 64) * 64 + nthD l 3 % 64 ≥ 0x10000 && Utf8.valid ((nthD l 0 % 8) * 262144 + (nthD l 1 % 64) * 4096 + (nthD l 2 % 64) * 64 + nthD l 3 % 64 : Nat) then
      ((nthD l 0 % 8) * 262144 + (nthD l 1 % 64) * 4096 + (nthD l 2 % 64) * 64 + nthD l 3 % 64, 4) else (Utf8.runeError, 1)
  else (Utf8.runeError, 1)

def aNext (σ : AHeap) (it : AV) : Option (AV × AHeap) :=
  match it with
  | .ptr b 0 => match σ.m.get b with
    | some (.siter s pos) => match Nat.blt pos s.length with
      | true => some (.tuple [.bool true, .int .i64 pos, .int .i32 ((dec (s.drop pos)).1 : Nat)], σ.put b (.siter s (pos + (dec (s.drop pos)).2)) [])
      | false => some (.tuple [.bool false], σ)
    | _ => none
  | _ => none

def aRange (P : Program) (σ : AHeap) (t : TypeId) (x : AV) : Option (AV × AHeap) :=
  match P.underlying t, x with
  | some .string, .str s => some (.ptr σ.next 0, σ.push (.siter s 0))
  | _, _ => none

def aToBytes (P : Program) (σ : AHeap) (src dst : TypeId) (x : AV) : Option (AV × AHeap) :=
  match P.underlying src, P.underlying dst, x with
  | some .string, some (.slice e), .str s => match P.underlying e with
    | some (.int .u8) => some (.slice σ.next 0 s.length s.length false 1, σ.push (.cells (bytesAV s) false 0 []))
    | _ => none
  | _, _, _ => none

def wr (P : Program) (ρ : Operand → AV) (σ : AHeap) (op : Op) : Option (AV × AHeap) :=
  match op with
  | .store t p v => match aStore P σ t (ρ p) (ρ v) with
    | some σ' => some (.undef, σ')
    | none => none
  | .alloc e => match zeroOf P e with
    | some z => some (.ptr σ.next 0, σ.push (.cells (aCells z) false 0 []))
    | none => none
  | .box _ v => some (.ptr σ.next 0, σ.push (.cells (aCells (ρ v)) false 0 []))
  | .buildSlice t n ps => aBuildSlice P σ t n (mapParts ρ ps.toList)
  | .makeSlice t l c => aMakeSlice P σ t (ρ l) (ρ c)
  | .convert s d x => aToBytes P σ s d (ρ x)
  | .range t x => aRange P σ t (ρ x)
  | .next it true => aNext σ (ρ it)
  | .call c => match c.callee with
    | .builtin .append => aAppend P σ c.argTypes.toList (mapOps ρ c.args.toList)
    | .builtin .copy => aCopy P σ c.argTypes.toList (mapOps ρ c.args.toList)
    | _ => none
  | _ => none

end Go.Am
namespace Go.Am
variable {θ : Where} {P : Program} {w : World}

theorem oneAll_one : ∀ {xs : List AV} {cs : List Value}, oneAll xs = true → VRels θ xs cs → ∀ v ∈ cs, v.oneCell' = true
  | [], [], _, _, v, hv => by simp at hv
  | x :: xs, c :: cs, h, r, v, hv => by
    simp only [VRels] at r
    have hx : oneAll xs = true ∧ c.oneCell' = true := by
      cases x <;> simp only [oneAll] at h <;> first
        | (simp at h; done)
        | (refine ⟨h, ?_⟩
           have := r.1
           cases c <;> simp_all [VRel, Value.oneCell'])
    rcases List.mem_cons.1 hv with rfl | hv
    · exact hx.2
    · exact oneAll_one hx.1 r.2 v hv
  | [], _ :: _, _, r, _, _ => by simp [VRels] at r
  | _ :: _, [], _, r, _, _ => by simp [VRels] at r

/-- cells are stored into a block -/
theorem put_run {σ : AHeap} (hR : Rel θ σ w.heap) {b o fz fz' : Nat} {xs new r : List AV} {ps : List Nat} {cs : List Value} {cb base : Nat} (hb : σ.m.get b = some (.cells xs false fz ps)) (hθ : θ b = some (cb, base))
    (hfz : fz ≤ o) (hl : lay xs o new = some r) (hr : VRels θ new cs) (h1 : oneAll new = true) (hfz' : fz ≤ fz') :
    ∃ w', (storeCells ⟨cb, base + o, none⟩ cs).run P w = .ok () w' ∧ Ev θ σ w θ (σ.put b (.cells r false fz' []) ps) w' := by
  obtain ⟨c, el, lo, hi, k1, k2, k3, k4, k5⟩ := hR.mem b _ cb base hb hθ
  obtain ⟨l1, l2, l3⟩ := lay_spec hl
  have hlen := vrels_len hr
  obtain ⟨w', c', r1, r2, r3, r4, r5, r6, r7, r8, r9⟩ := storeCells_run (P := P) cs 0 cb (base + o) c el lo hi w k1 (by omega)
    (fun j hj => by have := k5 rfl (o + j) (by omega) (by omega); rw [show base + o + 0 + j = base + (o + j) by omega]; exact this) (oneAll_one h1 hr)
  refine ⟨w', r1, ev_set hR hb rfl hθ rfl r2 r3 r4 r5 r6 ?_⟩
  refine ⟨c', el, lo, hi, r7, by rw [r8, k2], by omega, fun i v hv => ?_, fun _ i hi1 hi2 => k5 rfl i (by omega) hi2⟩
  rw [l3 i] at hv
  rw [r9]
  split at hv
  · rename_i hc
    rw [if_pos (by omega)]
    obtain ⟨d, hd, hrel⟩ := vrels_get hr hv
    exact ⟨d, by rw [show base + i - (base + o + 0) = i - o by omega]; exact hd, hrel⟩
  · rename_i hc
    rw [if_neg (by omega)]
    exact k4 i v hv

theorem aStore_sound {σ σ' : AHeap} (hR : Rel θ σ w.heap) {t : TypeId} {p v : AV} {cp cv : Value} (h : aStore P σ t p v = some σ') (hp : VRel θ p cp) (hv : VRel θ v cv) :
    ∃ w', (Instr.storeAt t cp cv).run P w = .ok () w' ∧ Ev θ σ w θ σ' w' := by
  unfold aStore at h
  split at h
  · rename_i b o
    rw [vrel_ptr] at hp
    obtain ⟨cb, base, hθ, rfl⟩ := hp
    split at h
    · rename_i xs fz ps hb
      split at h
      · rename_i n hn
        split at h
        · rename_i e1 e2 e3
          split at h
          · rename_i r hr
            simp at h; subst h
            have hc := aCells_rel hv
            obtain ⟨w', h1, h2⟩ := put_run (P := P) (fz' := fz) hR hb hθ (Nat.le_of_ble_eq_true e3) hr hc e2 (Nat.le_refl _)
            refine ⟨w', ?_, h2⟩
            have hsz : cv.cells.size = n := by rw [vrels_size hc]; exact Nat.eq_of_beq_eq_true e1
            simp only [Instr.storeAt, Instr.sureAddr, Sem.run_bind, Sem.run_pure, Result.andThen_ok, storeVar, tySize_run hn]
            simp [hsz, h1]
          · simp at h
        · simp at h
      · simp at h
    · simp at h
  · simp at h

/-- a new row of cells; the world's row may be longer -/
theorem push_row {σ : AHeap} (hR : Rel θ σ w.heap) {xs : List AV} {c : Array Value} {el : TypeId} {f : Nat × Nat} {fz : Nat} (hl : xs.length ≤ c.size)
    (hc : ∀ (i : Nat) (v : AV), xs[i]? = some v → ∃ cv, c[i]? = some cv ∧ VRel θ v cv) (hf : ∀ i, fz ≤ i → i < c.size → ¬ (f.1 ≤ i ∧ i < f.2)) :
    Ev θ σ w (θ.put σ.next (w.heap.size, 0) c.size) (σ.push (.cells xs false fz [])) (w.alloc (.cells c el f)) := by
  refine ev_push hR c.size rfl ⟨c, el, f.1, f.2, rfl, rfl, by omega, fun i v hv => ?_, fun _ i h1 h2 => by simpa using hf i h1 (by simpa using h2)⟩
  obtain ⟨cv, h1, h2⟩ := hc i v hv
  exact ⟨cv, by simpa using h1, VRel.mono (put_le hR _ _) v cv h2⟩

theorem push_cells {σ : AHeap} (hR : Rel θ σ w.heap) {xs : List AV} {c : Array Value} {el : TypeId} (hr : VRels θ xs c.toList) :
    Ev θ σ w (θ.put σ.next (w.heap.size, 0) c.size) (σ.push (.cells xs false 0 [])) (w.alloc (.cells c el)) := by
  refine push_row hR (by rw [vrels_size hr]; exact Nat.le_refl _) (fun i v hv => ?_) (fun i _ _ => by simp)
  obtain ⟨d, hd, hrel⟩ := vrels_get hr hv
  rw [Array.getElem?_toList] at hd
  exact ⟨d, hd, hrel⟩

theorem vrel_new {σ : AHeap} (t : Nat) (k : Nat) : VRel (θ.put σ.next (k, 0) t) (.ptr σ.next 0) (.pointer (some ⟨k, 0, none⟩)) := by
  rw [vrel_ptr]; exact ⟨k, 0, Where.put_same .., rfl⟩

theorem vrel_newslice {σ : AHeap} {n c z : Nat} {ex : Bool} {c' : Nat} (t : Nat) (k : Nat) (h1 : n ≤ c') (h2 : c ≤ c') (h3 : ex = true → c' = c) (h4 : c' * z ≤ t) :
    VRel (θ.put σ.next (k, 0) t) (.slice σ.next 0 n c ex z) (.slice (some ⟨k, 0, none⟩) n c') := by
  rw [vrel_slice]
  exact ⟨_, c', k, 0, rfl, h1, h2, h3, Where.put_same .., by rw [Where.put_tot]; omega, .inr rfl⟩

theorem zeroOf_run {t : TypeId} {z : AV} (h : zeroOf P t = some z) : ∃ cz, (zeroValue t).run P w = .ok cz w ∧ VRel θ z cz ∧ ∃ i, P.info? t = some i ∧ i.zero = some cz := by
  unfold zeroOf at h
  split at h
  · rename_i i hi
    split at h
    · rename_i v hv
      exact ⟨v, by simp [zeroValue, typeInfo, hi, hv], ofValue_rel v z h, i, hi, hv⟩
    · simp at h
  · simp at h

theorem rep_length : ∀ (n : Nat) (z : List AV), (rep n z).length = n * z.length
  | 0, z => by simp [rep]
  | n + 1, z => by simp [rep, rep_length n z, Nat.add_mul, Nat.add_comm]

theorem rep_get : ∀ (n : Nat) (z : List AV) (i : Nat), i < n * z.length → (rep n z)[i]? = z[i % z.length]?
  | 0, z, i, h => by simp at h
  | n + 1, z, i, h => by
    have e : (n + 1) * z.length = n * z.length + z.length := by rw [Nat.add_mul, Nat.one_mul]
    simp only [rep]
    by_cases hi : i < z.length
    · rw [List.getElem?_append_left hi, Nat.mod_eq_of_lt hi]
    · rw [List.getElem?_append_right (by omega), rep_get n z (i - z.length) (by omega)]
      congr 1
      rw [Nat.mod_eq_sub_mod (by omega : i ≥ z.length)]

theorem rep_rel {z : List AV} {cz : Array Value} (h : VRels θ z cz.toList) (n : Nat) :
    VRels θ (rep n z) ((Array.range (n * cz.size)).map (cz[· % cz.size]!)).toList := by
  have hs := vrels_size h
  refine vrels_of (by simp [rep_length, hs]) fun i x c hx hc => ?_
  have hi : i < n * z.length := by
    rcases Nat.lt_or_ge i (n * z.length) with h' | h'
    · exact h'
    · rw [List.getElem?_eq_none (by rw [rep_length]; exact h')] at hx; simp at hx
  have hpos : 0 < z.length := by
    rcases Nat.eq_zero_or_pos z.length with h0 | h0
    · rw [h0] at hi; simp at hi
    · exact h0
  rw [rep_get n z i hi] at hx
  obtain ⟨d, hd, hr⟩ := vrels_get h hx
  have : c = d := by
    rw [Array.getElem?_toList] at hc hd
    simp [hs, hi] at hc
    have hm : i % z.length < cz.size := by rw [hs]; exact Nat.mod_lt _ hpos
    rw [Array.getElem?_eq_getElem hm] at hd
    simp at hd
    rw [← hc]
    simp [getElem!_pos, hm, hd]
  rw [this]; exact hr

theorem aBuildSlice_sound {σ σ' : AHeap} (hR : Rel θ σ w.heap) {t : TypeId} {len : Nat} {parts : List (Nat × AV)} {cparts : Array (Nat × Value)} {v : AV} (h : aBuildSlice P σ t len parts = some (v, σ')) (hp : PartsRel θ parts cparts.toList) :
    ∃ θ' w' cv, (Instr.buildSlice t len cparts).run P w = .ok cv w' ∧ Ev θ σ w θ' σ' w' ∧ VRel θ' v cv := by
  unfold aBuildSlice at h
  split at h
  · rename_i e hu
    split at h
    · rename_i sz z hsz hz
      split at h
      · rename_i e1 e2
        split at h
        · rename_i r hr
          simp at h; obtain ⟨rfl, rfl⟩ := h
          obtain ⟨cz, hzr, hzv, _⟩ := zeroOf_run (θ := θ) (w := w) hz
          have hcz := aCells_rel hzv
          have hs : cz.cells.size = sz := by rw [vrels_size hcz]; exact Nat.eq_of_beq_eq_true e2
          have hle : len * sz ≤ 16777216 := Nat.le_of_ble_eq_true e1
          have hrep := rep_rel hcz len
          rw [hs] at hrep
          obtain ⟨cr, h1, h2⟩ := aFill_sound (pl' := fun i => some (i * sz, sz)) (fun _ => rfl) hr hp hrep
          have hlen : r.length = (rep len (aCells z)).length := by
            clear h1 h2 hrep hp
            revert hr
            generalize rep len (aCells z) = l
            intro hr
            induction parts generalizing l with
            | nil => simp [aFill] at hr; rw [hr]
            | cons p ps ih =>
              obtain ⟨i, v⟩ := p
              simp only [aFill] at hr
              split at hr
              · split at hr
                · rename_i s hs
                  rw [ih _ hr, (lay_spec hs).1]
                · simp at hr
              · simp at hr
          have hcs : cr.size = len * sz := by
            rw [vrels_size h2, hlen, rep_length]
            congr 1; exact Nat.eq_of_beq_eq_true e2
          refine ⟨_, _, .slice (some ⟨w.heap.size, 0, none⟩) len len, ?_, push_cells (el := e) hR h2, vrel_newslice _ _ (Nat.le_refl _) (Nat.le_refl _) (fun _ => rfl) (by rw [hcs]; exact Nat.le_refl _)⟩
          simp only [Instr.buildSlice, Sem.run_bind, run_underlying hu, Result.andThen_ok, tySize_run hsz]
          rw [if_neg (by omega)]
          by_cases h0 : len * sz = 0
          · simp only [h0, if_true, Sem.run_bind, Sem.run_pure, Result.andThen_ok]
            rw [show ((Array.range 0).map ((#[] : Array Value)[· % (#[] : Array Value).size]!)) = (Array.range (len * sz)).map (cz.cells[· % sz]!) by rw [h0]; simp]
            simp only [h1]
            simp [newRow]
          · simp only [h0, if_false, Sem.run_bind, hzr, Sem.run_pure, Result.andThen_ok, hs, h1]
            simp [newRow]
        · simp at h
      · simp at h
    · simp at h
  · simp at h


theorem aMakeSlice_sound {σ σ' : AHeap} (hR : Rel θ σ w.heap) {t : TypeId} {l c v : AV} {cl cc : Value} (h : aMakeSlice P σ t l c = some (v, σ')) (hl : VRel θ l cl) (hc : VRel θ c cc) :
    ∃ θ' w' cv, (Instr.makeSlice t cl cc).run P w = .ok cv w' ∧ Ev θ σ w θ' σ' w' ∧ VRel θ' v cv := by
  unfold aMakeSlice at h
  split at h
  · rename_i e kl l kc c hu
    rw [vrel_int] at hl hc; subst hl; subst hc
    split at h
    · rename_i i z hi hz
      split at h
      · rename_i hcond
        simp at h; obtain ⟨rfl, rfl⟩ := h
        obtain ⟨cz, hzr, hzv, i', hi', hz'⟩ := zeroOf_run (θ := θ) (w := w) hz
        rw [hi] at hi'; simp at hi'; subst hi'
        have hcz := aCells_rel hzv
        have hs : cz.cells.size = i.size := by rw [vrels_size hcz]; exact hcond.2.2.2.2
        have hrep := rep_rel hcz c.toNat
        rw [hs] at hrep
        refine ⟨_, _, _, run_make w t e i cz hu hi hz' kl kc l c hcond.1 hcond.2.1 hcond.2.2.1 (by omega), push_cells (el := e) hR (by rw [madeCells, hs]; exact hrep), vrel_newslice _ _ (by omega) (Nat.le_refl _) (fun _ => rfl) ?_⟩
        rw [size_madeCells]; exact Nat.le_refl _
      · simp at h
    · simp at h
  · simp at h

theorem bytesAV_rel : ∀ (l : List UInt8), VRels θ (bytesAV (l.map UInt8.toNat)) (l.map fun b => Value.int .u8 b.toNat)
  | [] => by simp [bytesAV, VRels]
  | b :: l => by simp only [List.map_cons, bytesAV, VRels]; exact ⟨by rw [vrel_int], bytesAV_rel l⟩

theorem bytesAV_length : ∀ (l : List Nat), (bytesAV l).length = l.length
  | [] => rfl
  | _ :: l => by simp [bytesAV, bytesAV_length l]

theorem aToBytes_sound {σ σ' : AHeap} (hR : Rel θ σ w.heap) {src dst : TypeId} {x v : AV} {cx : Value} (h : aToBytes P σ src dst x = some (v, σ')) (hx : VRel θ x cx) :
    ∃ θ' w' cv, (convert src dst cx).run P w = .ok cv w' ∧ Ev θ σ w θ' σ' w' ∧ VRel θ' v cv := by
  unfold aToBytes at h
  split at h
  · rename_i e s hs hd
    rw [vrel_str] at hx; obtain ⟨s, rfl, rfl⟩ := hx
    split at h
    · rename_i he
      simp at h; obtain ⟨rfl, rfl⟩ := h
      have hcap : s.size ≤ grownCap w s.size 0 e := by simp [grownCap, Question.cut]
      have hsz : (bytesRow s (grownCap w s.size 0 e)).size = grownCap w s.size 0 e := by simp [bytesRow]; omega
      refine ⟨_, _, _, run_bytes_of_string w src dst e s hs hd he, (push_row (w := w.drew) (el := e) hR (by rw [hsz, bytesAV_length, bytesOf_length]; exact hcap) (fun i v hv => ?_) (fun i _ hi => ?_)).congr rfl rfl rfl rfl, ?_⟩
      · obtain ⟨d, hd', hr⟩ := vrels_get (bytesAV_rel (θ := θ) s.data.toList) hv
        refine ⟨d, ?_, hr⟩
        have hlt : i < s.size := by
          have : i < (bytesAV (bytesOf s)).length := by
            rcases Nat.lt_or_ge i (bytesAV (bytesOf s)).length with h' | h'
            · exact h'
            · rw [List.getElem?_eq_none h'] at hv; simp at hv
          rwa [bytesAV_length, bytesOf_length] at this
        unfold bytesRow
        rw [Array.getElem?_append_left (by simpa using hlt)]
        rw [← Array.getElem?_toList, Array.toList_map]; exact hd'
      · simp only; omega
      · rw [bytesOf_length]
        exact vrel_newslice _ _ hcap hcap (by simp) (by rw [hsz]; omega)
    · simp at h
  · simp at h

theorem aRange_sound {σ σ' : AHeap} (hR : Rel θ σ w.heap) {t : TypeId} {x v : AV} {cx : Value} (h : aRange P σ t x = some (v, σ')) (hx : VRel θ x cx) :
    ∃ θ' w' cv, (Instr.range t cx).run P w = .ok cv w' ∧ Ev θ σ w θ' σ' w' ∧ VRel θ' v cv := by
  unfold aRange at h
  split at h
  · rename_i s hu
    rw [vrel_str] at hx; obtain ⟨s, rfl, rfl⟩ := hx
    simp at h; obtain ⟨rfl, rfl⟩ := h
    refine ⟨_, _, .pointer (some ⟨w.heap.size, 0, none⟩), ?_, ev_push (o := .stringIter s 0) (blk := .siter (bytesOf s) 0) hR 0 rfl ⟨rfl, s, rfl, rfl⟩, vrel_new _ _⟩
    simp [Instr.range, run_underlying hu]
  · simp at h

theorem nthD_eq : ∀ (l : List UInt8) (k : Nat), nthD (l.map UInt8.toNat) k = (l.getD k default).toNat
  | [], k => by simp [nthD]; rfl
  | x :: l, 0 => rfl
  | x :: l, k + 1 => by simpa [nthD] using nthD_eq l k
theorem contL_eq : ∀ (l : List UInt8) (k : Nat), contL (l.map UInt8.toNat) k = (decide (k < l.length) && (l.getD k default).toNat / 64 == 2)
  | [], k => by simp [contL]
  | x :: l, 0 => by simp [contL]
  | x :: l, k + 1 => by simpa [contL] using contL_eq l k

theorem dec_eq (s : ByteArray) (i : Nat) : Utf8.decode s i = dec ((bytesOf s).drop i) := by
  have e0 : (bytesOf s).drop i = (s.data.toList.drop i).map UInt8.toNat := by simp [bytesOf, List.map_drop]
  have e1 : ∀ k, (s.get! (i + k)).toNat = nthD ((bytesOf s).drop i) k := by
    intro k
    rw [e0, nthD_eq]
    congr 1
    have h1 : s.get! (i + k) = (s.data.toList.drop i).getD k default := by
      show s.data[i + k]! = _
      rw [List.getD, List.getElem?_drop, Array.getElem?_toList]
      rw [Array.getElem!_eq_getD, Array.getD_eq_getD_getElem?]
    exact h1
  have e2 : ∀ k, (decide (i + k < s.size) && nthD ((bytesOf s).drop i) k / 64 == 2) = contL ((bytesOf s).drop i) k := by
    intro k
    rw [e0, contL_eq, nthD_eq]
    congr 1
    have hs : s.size = s.data.toList.length := by simp
    rw [decide_eq_decide, hs, List.length_drop]
    omega
  unfold Utf8.decode dec
  simp only [e1, e2]

theorem aNext_sound {σ σ' : AHeap} (hR : Rel θ σ w.heap) {it v : AV} {cit : Value} {ty : TypeId} (h : aNext σ it = some (v, σ')) (hx : VRel θ it cit) :
    ∃ w' cv, (Instr.next cit true ty).run P w = .ok cv w' ∧ Ev θ σ w θ σ' w' ∧ VRel θ v cv := by
  unfold aNext at h
  split at h
  · rename_i b
    rw [vrel_ptr] at hx
    obtain ⟨cb, base, hθ, rfl⟩ := hx
    split at h
    · rename_i s pos hb
      obtain ⟨rfl, bs, hw, rfl⟩ := hR.mem b _ cb base hb hθ
      split at h
      · rename_i hlt
        simp at h; obtain ⟨rfl, rfl⟩ := h
        have hlt' : pos < bs.size := by rw [← bytesOf_length]; exact Nat.le_of_ble_eq_true hlt
        have hcb : cb < w.heap.size := hR.mem.lt hb hθ
        refine ⟨{ w with heap := w.heap.setIfInBounds cb (.stringIter bs (pos + (Utf8.decode bs pos).2)) }, .tuple #[.bool true, goInt pos, .int .i32 ((Utf8.decode bs pos).1 : Nat)], ?_, ?_, ?_⟩
        · simp [Instr.next, getObj, setObj, Sem.run, hw, hlt']
        · refine ev_set (blk := .siter (bytesOf bs) pos) hR hb rfl hθ rfl (by simp) (fun k hk => by simp [Array.getElem?_setIfInBounds, show cb ≠ k from fun e => hk e.symm]) rfl rfl rfl ⟨rfl, bs, ?_, rfl⟩
          simp [Array.getElem?_setIfInBounds, hcb, dec_eq]
        · rw [dec_eq]; simp [VRel, VRels, goInt]
      · rename_i hge
        simp at h; obtain ⟨rfl, rfl⟩ := h
        have hge' : ¬ pos < bs.size := by
          rw [← bytesOf_length]
          intro hlt
          have : Nat.blt pos (bytesOf bs).length = true := by simpa [Nat.blt_eq] using hlt
          rw [this] at hge; simp at hge
        refine ⟨w, .tuple #[.bool false], ?_, Ev.refl hR, by simp [VRel, VRels]⟩
        simp [Instr.next, getObj, Sem.run, hw, hge']
    · simp at h
  · simp at h

end Go.Am
