import Derived.Test.YtophnlmdcidolaaDoorW
set_option linter.all false
namespace Go.Am
variable {P : Program}
def cmpN : List Nat → List Nat → Int
  | [], [] => 0
  | [], _ :: _ => -1
  | _ :: _, [] => 1
  | a :: x, b :: y => match Nat.blt a b with
    | true => -1
    | false => match Nat.blt b a with
      | true => 1
      | false => cmpN x y
theorem cmpN_eq : ∀ (x y : List UInt8), Lib.compareBytes x y = cmpN (x.map UInt8.toNat) (y.map UInt8.toNat)
  | [], [] => rfl
  | [], _ :: _ => rfl
  | _ :: _, [] => rfl
  | a :: x, b :: y => by
    simp only [List.map_cons, cmpN, Lib.compareBytes, nat_blt]
    rw [← cmpN_eq x y]
    simp only [UInt8.lt_iff_toNat_lt]
    by_cases h1 : a.toNat < b.toNat
    · simp [h1]
    · by_cases h2 : b.toNat < a.toNat
      · simp [h1, h2]
      · simp [h1, h2]
theorem tr_cmpString {f : FuncId} {fn : Func} {l r : List Nat} {σ : AHeap} (hf : P.funcs[f]? = some fn) (hname : (fn.name == "runtime.NumGoroutine") = false)
    (hb : fn.body.isNone = true) (hn : Extern.findNext fn = none) (he : Extern.find fn = some Extern.BytealgCompare.compare) :
    Tr P f [.str l, .str r] σ fun v σ' => v = .int .i64 (cmpN l r) ∧ σ' = σ := by
  refine Tr.extern hf hname hb hn he fun θ w cargs hS hr => ?_
  match cargs, hr with
  | [a, b], hr =>
    simp only [VRels] at hr
    obtain ⟨h1, h2, _⟩ := hr
    rw [vrel_str] at h1; obtain ⟨s, rfl, rfl⟩ := h1
    rw [vrel_str] at h2; obtain ⟨t, rfl, rfl⟩ := h2
    refine ⟨_, _, Lib.run_compareString s t w, by rw [vrel_int], ?_, rfl⟩
    rw [cmpN_eq]
    rfl
  | [], hr => simp [VRels] at hr
  | [_], hr => simp [VRels] at hr
  | _ :: _ :: _ :: _, hr => simp [VRels] at hr
end Go.Am
namespace Go.Proofs.YtophnlmdcidolaaDoor
open Go Go.Am
/-- functions without a body, with the comparison of texts -/
def ext2 : Caller := fun f args σ =>
  match Nat.beq f 93, args with
  | true, [.str l, .str r] => some (.int .i64 (cmpN l r), σ)
  | _, _ => ext f args σ
theorem ext2_ok : CallerOk Tryd.prog ext2 := by
  intro f args σ v σ' h
  unfold ext2 at h
  split at h
  · rename_i l r hf
    simp only [Option.some.injEq, Prod.mk.injEq] at h
    obtain ⟨rfl, rfl⟩ := h
    have hf := Nat.eq_of_beq_eq_true hf
    subst hf
    exact tr_cmpString (P := Tryd.prog) Tryd.func93 rfl rfl (by kernel_rfl) (by kernel_rfl)
  · exact ext_ok _ _ _ _ _ h
theorem stirs_run : isTrue (evFun Tryd.prog ext2 20000 40 13 [] (heap0 Tryd.prog)) = true := by kernel_rfl
theorem stirs_tr : Tr Tryd.prog 13 [] (heap0 Tryd.prog) fun v _ => v = .bool true := by
  obtain ⟨σ, h⟩ := isTrue_iff stirs_run
  exact (evFun_sound ext2_ok mixed 20000 40 _ _ _ _ _ h).mono fun v σ' h => h.1
end Go.Proofs.YtophnlmdcidolaaDoor
