import Derived.Test.YtophnlmdcidolaaDoorC23
import Derived.Lib.Bytealg
set_option linter.all false
namespace Go.Am
variable {P : Program}

/-! Functions without a body. -/

def idx : List Nat → Nat → Int
  | [], _ => -1
  | x :: l, c => if x = c then 0 else if idx l c = -1 then -1 else idx l c + 1

theorem idx_eq : ∀ (l : List UInt8) (c : UInt8), Lib.indexByte l c = idx (l.map UInt8.toNat) c.toNat
  | [], c => rfl
  | x :: l, c => by
    unfold Lib.indexByte
    simp only [List.map_cons, idx, idx_eq l c]
    by_cases h : x = c
    · subst h; simp
    · have : x.toNat ≠ c.toNat := fun e => h (u8_inj e)
      simp [h, this]

theorem idx_ge (l : List Nat) (c : Nat) : -1 ≤ idx l c := by
  induction l with
  | nil => simp [idx]
  | cons x l ih => simp only [idx]; split <;> (try split) <;> omega

theorem idx_mem (l : List Nat) (c : Nat) : 0 ≤ idx l c ↔ c ∈ l := by
  induction l with
  | nil => simp [idx]
  | cons x l ih =>
    have := idx_ge l c
    simp only [idx, List.mem_cons]
    split
    · rename_i h; simp [h]
    · rename_i h
      split
      · rename_i h2
        constructor
        · intro h3; omega
        · rintro (h3 | h3)
          · exact absurd h3.symm h
          · have := ih.2 h3; omega
      · rename_i h2
        constructor
        · intro _; exact .inr (ih.1 (by omega))
        · intro _; omega

theorem Tr.extern {f : FuncId} {fn : Func} {e : Array Value → Sem Value} {args : List AV} {σ : AHeap} {Q : AV → AHeap → Prop} (hf : P.funcs[f]? = some fn) (hname : (fn.name == "runtime.NumGoroutine") = false)
    (hb : fn.body.isNone = true) (hn : Extern.findNext fn = none) (he : Extern.find fn = some e)
    (h : ∀ θ w cargs, SRel P θ σ w → VRels θ args cargs → ∃ cv v, (e cargs.toArray).run P w = .ok cv w ∧ VRel θ v cv ∧ Q v σ) : Tr P f args σ Q := by
  intro θ w cargs hS hr
  obtain ⟨cv, v, h1, h2, h3⟩ := h θ w cargs.toList hS hr
  refine .inl ⟨cv, w, v, σ, θ, ?_, h3, Ev.refl hS.rel, h2⟩
  rw [run_callFunc_extern hf hname hb hn he]
  rw [show cargs = cargs.toList.toArray by simp, h1]; rfl

theorem tr_indexByteString {f : FuncId} {fn : Func} {l : List Nat} {c : Nat} {σ : AHeap} (hf : P.funcs[f]? = some fn) (hname : (fn.name == "runtime.NumGoroutine") = false)
    (hb : fn.body.isNone = true) (hn : Extern.findNext fn = none) (he : Extern.find fn = some Extern.BytealgIndexByte.indexByte) (hc : c < 256) :
    Tr P f [.str l, .int .u8 c] σ fun v σ' => v = .int .i64 (idx l c) ∧ σ' = σ := by
  refine Tr.extern hf hname hb hn he fun θ w cargs hS hr => ?_
  match cargs, hr with
  | [a, b], hr =>
    simp only [VRels] at hr
    obtain ⟨h1, h2, _⟩ := hr
    rw [vrel_str] at h1; obtain ⟨s, rfl, rfl⟩ := h1
    rw [vrel_int] at h2; subst h2
    refine ⟨_, _, Lib.run_indexByteString s c w, by rw [vrel_int], ?_, rfl⟩
    rw [idx_eq]
    congr 2
    simp only [Int.toNat_natCast]
    rw [Nat.toUInt8_eq, UInt8.toNat_ofNat']
    exact Nat.mod_eq_of_lt hc
  | [], hr => simp [VRels] at hr
  | [_], hr => simp [VRels] at hr
  | _ :: _ :: _ :: _, hr => simp [VRels] at hr
end Go.Am
