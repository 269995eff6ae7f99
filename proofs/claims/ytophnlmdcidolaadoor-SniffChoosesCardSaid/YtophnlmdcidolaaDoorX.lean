import Derived.Test.YtophnlmdcidolaaDoorW2
import Derived.Shelf.Strings.Search3
import Derived.Test.YtophnlmdcidolaaDoorF
set_option linter.all false
namespace Go.Am
variable {P : Program}
/-- a contract of the kit, in the machine's words: the call turns nothing -/
theorem Tr.of_calls {f : FuncId} {fn : Func} {c : Code} {args : List AV} {σ : AHeap} {Q : AV → AHeap → Prop} (hf : P.funcs[f]? = some fn) (hb : fn.body = some c) (hn : (fn.name == "runtime.NumGoroutine") = false)
    (h : ∀ θ w cargs, SRel P θ σ w → VRels θ args cargs → Calls P f cargs.toArray w fun e w' => ∃ cv v, e = .returned cv ∧ w' = w ∧ VRel θ v cv ∧ Q v σ) : Tr P f args σ Q := by
  intro θ w cargs hS hr
  refine .inr ⟨callFunc_enter hf hb hn cargs w, ?_⟩
  have z := h θ w cargs.toList hS hr
  rw [show cargs.toList.toArray = cargs by simp] at z
  refine z.mono fun e w' ⟨cv, v, h1, h2, h3, h4⟩ => ?_
  subst h2
  exact ⟨cv, v, σ, θ, h1, h4, Ev.refl hS.rel, h3⟩
/-- what the cell of a variable of the program holds -/
theorem cell_of {θ : Where} {σ : AHeap} {w : World} {g : Nat} {x : AV} {xs : List AV} {ro : Bool} {fz : Nat} {ps : List Nat} (hS : SRel P θ σ w) (hg : g < P.globals.size) (hm : σ.m.get g = some (.cells (x :: xs) ro fz ps)) :
    ∃ c, w.cell? ⟨g, 0, none⟩ = some c ∧ VRel θ x c := by
  obtain ⟨c, el, lo, hi, h1, _, _, h2, _⟩ := hS.rel.mem _ _ _ _ hm (hS.glob g hg)
  obtain ⟨cv, h3, h4⟩ := h2 0 x rfl
  refine ⟨cv, ?_, h4⟩
  rw [Nat.zero_add] at h3
  simp [World.cell?, h1, h3]
end Go.Am
namespace Go.Proofs.YtophnlmdcidolaaDoor
open Go Go.Am Go.Shelf
/-- the numbers that this program has for the functions, types and variables of the kit's contract -/
def rho : Ren := ⟨fun n => match n with
  | 143 => 51
  | 219 => 75
  | 217 => 66
  | 224 => 89
  | 225 => 88
  | 266 => 83
  | 267 => 90
  | 314 => 95
  | _ => 0, fun n => match n with
  | 3 => 3
  | 4 => 4
  | 5 => 5
  | 9 => 9
  | 46 => 98
  | 51 => 115
  | 146 => 116
  | _ => 0, fun _ => 0⟩
theorem lays143 : Lays.n143 Tryd.prog rho where
  mixed := mixed
  f143 := by kernel_rfl
  f219 := by kernel_rfl
  f217 := by kernel_rfl
  f224 := by kernel_rfl
  f225 := by kernel_rfl
  f266 := by kernel_rfl
  f267 := by kernel_rfl
  f314 := by kernel_rfl
  t3 := by kernel_rfl
  a3 := fun _ => by kernel_rfl
  z3 := fun _ => by kernel_rfl
  v3 := fun _ => by kernel_rfl
  t4 := by kernel_rfl
  a4 := fun _ => by kernel_rfl
  z4 := fun _ => by kernel_rfl
  v4 := fun _ => by kernel_rfl
  t5 := by kernel_rfl
  a5 := fun _ => by kernel_rfl
  z5 := fun _ => by kernel_rfl
  v5 := fun _ => by kernel_rfl
  t9 := by kernel_rfl
  a9 := fun _ => by kernel_rfl
  z9 := fun _ => by kernel_rfl
  v9 := fun _ => by kernel_rfl
  t46 := by kernel_rfl
  a46 := fun _ => by kernel_rfl
  z46 := fun _ => by kernel_rfl
  v46 := fun _ => by kernel_rfl
  t51 := by kernel_rfl
  a51 := fun _ => by kernel_rfl
  z51 := fun _ => by kernel_rfl
  v51 := fun _ => by kernel_rfl
  t146 := by kernel_rfl
  a146 := fun _ => by kernel_rfl
  z146 := fun _ => by kernel_rfl
  v146 := fun _ => by kernel_rfl
  g1 := by kernel_rfl
theorem index_calls (s sub : ByteArray) (m : Int) (w : World) (hs : s.size < 4294967281) (hm : w.cell? ⟨0, 0, none⟩ = some (.int .i64 m)) :
    Calls Tryd.prog 51 #[.string s, .string sub] w fun e w' => e = .returned (.int .i64 (Lib.index s.data.toList sub.data.toList)) ∧ w' = w :=
  Any.strings_Index lays143 s sub m w hs hm
end Go.Proofs.YtophnlmdcidolaaDoor
namespace Go.Am
def indexN : List Nat → List Nat → Int
  | [], t => if t.isEmpty then 0 else -1
  | b :: l, t => if t.isPrefixOf (b :: l) then 0 else if indexN l t == -1 then -1 else indexN l t + 1
theorem pre_map : ∀ (y x : List UInt8), y.isPrefixOf x = (y.map UInt8.toNat).isPrefixOf (x.map UInt8.toNat)
  | [], _ => rfl
  | _ :: _, [] => rfl
  | a :: y, b :: x => by
    simp only [List.map_cons, List.isPrefixOf, pre_map y x]
    congr 1
    rw [Bool.eq_iff_iff, beq_iff_eq, beq_iff_eq]
    exact UInt8.toNat_inj.symm
theorem indexN_eq : ∀ (x y : List UInt8), Lib.index x y = indexN (x.map UInt8.toNat) (y.map UInt8.toNat)
  | [], y => by cases y <;> rfl
  | b :: x, y => by
    simp only [Lib.index, List.map_cons, indexN]
    rw [← indexN_eq x y, pre_map]
    rfl
end Go.Am
namespace Go.Proofs.YtophnlmdcidolaaDoor
open Go Go.Am
theorem f51_tr {σ : AHeap} {l t : List Nat} {m : Int} {ro : Bool} {fz : Nat} {ps : List Nat} (hm : σ.m.get 0 = some (.cells [.int .i64 m] ro fz ps)) (hl : l.length < 4294967281) :
    Tr Tryd.prog 51 [.str l, .str t] σ fun v σ' => v = .int .i64 (indexN l t) ∧ σ' = σ := by
  refine Tr.of_calls Tryd.func51 rfl (by decide) fun θ w cargs hS hr => ?_
  match cargs, hr with
  | [a, b], hr =>
    simp only [VRels] at hr
    obtain ⟨h1, h2, _⟩ := hr
    rw [vrel_str] at h1; obtain ⟨s, rfl, rfl⟩ := h1
    rw [vrel_str] at h2; obtain ⟨u, rfl, rfl⟩ := h2
    obtain ⟨c, hc, hv⟩ := cell_of hS (by decide) hm
    rw [vrel_int] at hv
    subst hv
    rw [bytesOf_length] at hl
    refine (index_calls s u m w hl hc).mono fun e w' ⟨h1, h2⟩ => ⟨_, _, h1, h2, by rw [vrel_int], ?_, rfl⟩
    rw [indexN_eq]
    rfl
  | [], hr => simp [VRels] at hr
  | [_], hr => simp [VRels] at hr
  | _ :: _ :: _ :: _, hr => simp [VRels] at hr
end Go.Proofs.YtophnlmdcidolaaDoor
