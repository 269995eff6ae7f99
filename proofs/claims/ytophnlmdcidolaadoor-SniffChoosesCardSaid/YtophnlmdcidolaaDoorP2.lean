import Derived.Test.YtophnlmdcidolaaDoorW2
import Derived.Test.YtophnlmdcidolaaDoorD
set_option linter.all false
namespace Go.Proofs.YtophnlmdcidolaaDoor
open Go Go.Am
/-- the heap at the entry, with the cell of bytealg.MaxLen -/
def heapM (m : Int) : AHeap := ⟨(PT.leaf : PT ABlock).set 0 (.cells [.int .i64 m] true 0 []), 3⟩
theorem speaks_run (m : Int) : isTrue (evFun Tryd.prog ext2 2000 40 7 [] (heapM m)) = true := by kernel_rfl
theorem heapM_get (m : Int) : (heapM m).m.get 0 = some (.cells [.int .i64 m] true 0 []) := by
  unfold heapM
  rw [PT.get_set]
  rfl
end Go.Proofs.YtophnlmdcidolaaDoor
namespace Go.Proofs.YtophnlmdcidolaaDoor
open Go Go.Am Go.RowKit
def whereM (t : Nat) : Where := ⟨fun g => if g < 3 then some (g, 0) else none, fun _ => t⟩
theorem heapM_only {m : Int} {b : Nat} {x : ABlock} (h : (heapM m).m.get b = some x) : b = 0 ∧ x = .cells [.int .i64 m] true 0 [] := by
  unfold heapM at h
  rw [PT.get_set] at h
  split at h
  · rename_i e
    simp only [Option.some.injEq] at h
    exact ⟨e.symm, h.symm⟩
  · rw [get_leaf0] at h; simp at h
theorem srelM {m : Int} {w : World} (hm : w.cell? ⟨0, 0, none⟩ = some (.int .i64 m)) : ∃ t, SRel Tryd.prog (whereM t) (heapM m) w := by
  have hc : ∃ c el lo hi, w.heap[0]? = some (.cells c el (lo, hi)) ∧ c[0]? = some (.int .i64 m) := by
    unfold World.cell? at hm
    split at hm
    · rename_i c el fz hh
      obtain ⟨lo, hi⟩ := fz
      exact ⟨c, el, lo, hi, hh, by simpa using hm⟩
    · simp at hm
  obtain ⟨c, el, lo, hi, h1, h2⟩ := hc
  refine ⟨c.size, ⟨?_, ?_, ?_, ?_, ?_, ?_⟩, ?_⟩
  · intro b blk cb base hb hθ
    obtain ⟨rfl, rfl⟩ := heapM_only hb
    simp only [whereM] at hθ
    rw [if_pos (by omega)] at hθ
    simp only [Option.some.injEq, Prod.mk.injEq] at hθ
    obtain ⟨rfl, rfl⟩ := hθ
    have hs : 0 < c.size := by
      have := Array.getElem?_eq_some_iff.1 h2
      exact this.1
    refine ⟨c, el, lo, hi, h1, rfl, by show 0 + 1 ≤ c.size; omega, fun i v hv => ?_, fun h => by cases h⟩
    cases i with
    | zero =>
      simp at hv
      subst hv
      exact ⟨_, h2, by rw [vrel_int]⟩
    | succ i => simp at hv
  · intro b1 b2 k1 k2 cb o1 o2 hne g1 g2
    exact absurd ((heapM_only g1).1.trans (heapM_only g2).1.symm) hne
  · intro b1 b2 k1 k2 g1 g2 hb
    rw [(heapM_only g2).2] at hb
    simp [ABlock.ps] at hb
  · intro b hb
    have hb : 3 ≤ b := hb
    unfold heapM
    rw [PT.get_set, if_neg (by omega), get_leaf0]
  · intro b x h
    simp only [whereM] at h
    split at h
    · assumption
    · simp at h
  · intro b k p hk hp
    rw [(heapM_only hk).2] at hp
    simp [ABlock.ps] at hp
  · intro g hg
    have hg : g < 3 := hg
    simp [whereM, hg]
theorem entryM {f : FuncId} {fn : Func} {c : Code} {args : List AV} {Q : AV → AHeap → Prop} {cargs : Array Value} {w : World} {m : Int} (h : Tr Tryd.prog f args (heapM m) Q) (hm : w.cell? ⟨0, 0, none⟩ = some (.int .i64 m))
    (hf : Tryd.prog.funcs[f]? = some fn) (hb : fn.body = some c) (hn : (fn.name == "runtime.NumGoroutine") = false) (hr : ∀ θ, VRels θ args cargs.toList) :
    Calls Tryd.prog f cargs w fun e w' => ∃ cv v σ' θ', e = .returned cv ∧ Q v σ' ∧ VRel θ' v cv ∧ Below w.heap.size w w' := by
  obtain ⟨t, hS⟩ := srelM hm
  have fin : ∀ {θ' σ' w'}, Ev (whereM t) (heapM m) w θ' σ' w' → Below w.heap.size w w' := fun e =>
    ⟨e.os, e.tape, e.output, e.size, fun k hk => e.frame k hk (by
      rintro ⟨b, blk, base, h1, h2, _⟩
      rw [(heapM_only h1).2] at h2
      cases h2)⟩
  rcases h (whereM t) w cargs hS (hr _) with ⟨cv, w', v, σ', θ', h1, h2, h3⟩ | ⟨h1, h2⟩
  · rw [callFunc_enter hf hb hn] at h1
    cases h1
  · exact h2.mono fun e w' ⟨cv, v, σ', θ', k1, k2, k3, k4⟩ => ⟨cv, v, σ', θ', k1, k2, k4, fin k3⟩
end Go.Proofs.YtophnlmdcidolaaDoor
