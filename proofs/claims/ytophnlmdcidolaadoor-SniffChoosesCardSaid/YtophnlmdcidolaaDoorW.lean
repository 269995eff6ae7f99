import Derived.Test.YtophnlmdcidolaaDoorF
import Derived.Test.YtophnlmdcidolaaDoorE2
import Derived.Test.YtophnlmdcidolaaDoorD
set_option linter.all false
namespace Go.Am
def isTrue : Option (AV × AHeap) → Bool
  | some (.bool true, _) => true
  | _ => false
theorem isTrue_iff {x : Option (AV × AHeap)} (h : isTrue x = true) : ∃ σ, x = some (.bool true, σ) := by
  match x, h with
  | some (.bool true, σ), _ => exact ⟨σ, rfl⟩
end Go.Am
namespace Go.Proofs.YtophnlmdcidolaaDoor
open Go Go.Am
/-- functions without a body -/
def ext : Caller := fun f args σ =>
  match Nat.beq f 83, args with
  | true, [.str l, .int .u8 c] => match decide (0 ≤ c), Nat.blt c.toNat 256 with
    | true, true => some (.int .i64 (idx l c.toNat), σ)
    | _, _ => none
  | _, _ => none
theorem ext_ok : CallerOk Tryd.prog ext := by
  intro f args σ v σ' h
  unfold ext at h
  split at h
  · rename_i l c hf
    split at h
    · rename_i h1 h2
      simp only [Option.some.injEq, Prod.mk.injEq] at h
      obtain ⟨rfl, rfl⟩ := h
      have hf := Nat.eq_of_beq_eq_true hf
      subst hf
      have h1 := of_decide_eq_true h1
      have e : c = ((c.toNat : Nat) : Int) := by omega
      have h2 : c.toNat < 256 := by
        unfold Nat.blt at h2
        exact Nat.le_of_ble_eq_true h2
      have := tr_indexByteString (P := Tryd.prog) (σ := σ) (l := l) (f := 83) Tryd.func83 rfl rfl (by kernel_rfl) (by kernel_rfl) h2
      rw [← e] at this
      exact this
    · simp at h
  · simp at h
theorem wakes_run : isTrue (evFun Tryd.prog ext 2000 40 11 [] (heap0 Tryd.prog)) = true := by kernel_rfl
end Go.Proofs.YtophnlmdcidolaaDoor
