import Derived.Test.YtophnlmdcidolaaDoorA
set_option linter.all false
namespace Go.Am
variable {θ : Where} {P : Program} {w : World}

set_option maxHeartbeats 2000000 in
theorem append_room_run {st xt ty e : TypeId} {d : TypeDesc} {i : TypeInfo} {ts : Array TypeId} {args : Array Value} {base : Option Addr} {sl sc n : Nat} {x : Value} {news : Array Value} {w' : World}
    (t0 : ts[0]? = some st) (t1 : ts[1]? = some xt) (a0 : args[0]? = some (.slice base sl sc)) (a1 : args[1]? = some x)
    (hs : P.underlying st = some (.slice e)) (hx : P.underlying xt = some d) (hd : isIntTy d = false) (hi : P.info? e = some i)
    (hn : (Builtin.lenOf x).run P w = .ok n w) (hroom : sl + n ≤ sc) (hnew : (Builtin.firstCells i.size n x).run P w = .ok news w)
    (hst : match base with | some a => (storeCells (a.add (sl * i.size)) news.toList).run P w = .ok () w' | none => w' = w) :
    (Builtin.append_ ts ty args).run P w = .ok (.slice base (sl + n) sc) w' := by
  cases base with
  | none =>
    simp only at hst; subst hst
    cases d <;> first
      | (simp [isIntTy] at hd; done)
      | simp [Builtin.append_, t0, a0, a1, t1, run_underlying hs, sizeOf, typeInfo, hi, run_underlying hx, hn, hroom, hnew]
  | some a =>
    simp only at hst
    cases d <;> first
      | (simp [isIntTy] at hd; done)
      | simp [Builtin.append_, t0, a0, a1, t1, run_underlying hs, sizeOf, typeInfo, hi, run_underlying hx, hn, hroom, hnew, hst]

set_option maxHeartbeats 2000000 in
theorem append_grow_run {st xt ty e : TypeId} {d : TypeDesc} {i : TypeInfo} {z : Value} {ts : Array TypeId} {args : Array Value} {base : Option Addr} {sl sc n : Nat} {x : Value} {news olds : Array Value}
    (t0 : ts[0]? = some st) (t1 : ts[1]? = some xt) (a0 : args[0]? = some (.slice base sl sc)) (a1 : args[1]? = some x)
    (hs : P.underlying st = some (.slice e)) (hx : P.underlying xt = some d) (hd : isIntTy d = false) (hi : P.info? e = some i) (hz : i.zero = some z)
    (hn : (Builtin.lenOf x).run P w = .ok n w) (hroom : ¬ sl + n ≤ sc) (hnew : (Builtin.firstCells i.size n x).run P w.drew = .ok news w.drew) (hold : (Builtin.firstCells i.size sl (.slice base sl sc)).run P w.drew = .ok olds w.drew)
    (h63 : sl + n ≤ 4611686018427387904) (h48 : (sl + n) * i.bytes ≤ 140737488355328) :
    (Builtin.append_ ts ty args).run P w = .ok (.slice (some ⟨w.heap.size, 0, none⟩) (sl + n) (grownCap w (sl + n) sc e))
      (w.drew.alloc (.cells (olds ++ news ++ Builtin.zeroCells z.cells (grownCap w (sl + n) sc e - (sl + n))) e)) := by
  have h1 : ¬ ((((sl + n : Nat) : Int) > IntKind.i64.max) ∧ (False ∨ i.bytes = 0)) := by
    intro ⟨h, _⟩
    have : IntKind.i64.max = 9223372036854775807 := by decide
    omega
  have h2 := growslice_fits (show sc < sl + n by omega) h48
  have h2' : ¬ (281474976710656 < Builtin.nextslicecap (sl + n) sc * i.bytes) := by omega
  have h1' : ¬ (9223372036854775807 < ((sl : Int) + (n : Int))) := by omega
  cases d <;> first
    | (simp [isIntTy] at hd; done)
    | simp [Builtin.append_, t0, a0, a1, t1, run_underlying hs, sizeOf, typeInfo, hi, run_underlying hx, hn, hroom, h1', h2', Question.forced, hold, hnew, zeroValue, hz, newRow, grownCap]

end Go.Am
