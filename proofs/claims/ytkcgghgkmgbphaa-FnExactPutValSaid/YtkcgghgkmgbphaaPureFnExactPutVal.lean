/- PutVal of the program answers for every list of bytes and every value what PutVal of the reference answers, and shares no memory.
Conditions: those of the printed statement (sizes of what came in, each number of its kind). -/
import Derived.Test.YtkcgghgkmgbphaaEqFnExactPutVal
namespace Go.Proofs.Ytkcgghgkmgbphaa.Pure
open Go.RowKit Go.Proofs.Ytkcgghgkmgbphaa.PFnExactPutVal Go.Proofs.YtkcgghgkmgbphaaW.PrintWords Go.Proofs.YtkcgghgkmgbphaaW.PrintLast Go.Proofs.Ytkcgghgkmgbphaa.Base Go.Proofs.Ytkcgghgkmgbphaa.EqFnExactPutVal

theorem FnExactPutVal (l : List Int) (t n : Int) (x : ByteArray) (o : List Int) (hx : x.size ≤ 9223372036854775807) (ho : o.length ≤ 9223372036854775807) : ∃ k, laws_FnExactPutVal.f k l t n x o = some true := by
  refine ⟨3000000, ?_⟩
  unfold laws_FnExactPutVal.f
  by_cases h : (l.length : Int) > 1048576
  · rw [if_pos h]
  · rw [if_neg h, szVal_eq t n x o hx ho (by omega) (by omega), Option.bind_some]
    by_cases h2 : (1048576 : Int) < (x.size : Int) + (o.length : Int)
    · rw [if_pos h2, if_pos (by omega)]
    · rw [if_neg h2, if_neg (by omega)]
      have hp := putVal_len l t n x o
      obtain ⟨z, e, hz⟩ := markVal_eq t n x o (1 + (l.length : Int)) (k := 3000000) (by omega) (by omega) (by omega) (by omega)
      have n1 : ¬ (1 + ((putVal l t n x o).length : Int) < 0) := by omega
      have n2 : ¬ (1 + (l.length : Int) + (o.length : Int) < 0) := by omega
      have fin : ∀ k, 2900000 ≤ k → laws_FnExactPutVal.j0 k l (putVal l t n x o) (putVal l t n x o) false t n x o = some true := by
        intro k hk
        obtain ⟨k, rfl⟩ : ∃ m, k = m + 1 := ⟨k - 1, by omega⟩
        have e1 := toByteS_eq (xs := l) (by omega) (k := k) (by omega)
        have e2 := toVal_eq t n x (o := o) (by omega) (k := k) (by omega)
        have e3 := impl_PutVal_eq (p := l) (by omega) t n x (o := o) (by omega) (k := k) (by omega)
        have e4 := eqByteS_self (xs := putVal l t n x o) (by omega) (k := k) (by omega)
        have e5 := markByteS_eq (putVal l t n x o) 1 (by omega) (by omega) (by omega) (k := k) (by omega)
        have e6 := heldByteS_eq (putVal l t n x o).length 1 (by omega) (by omega) (by omega) (k := k) (by omega)
        simp only [laws_FnExactPutVal.j0, e1, e2, e3, e4, e5, e6, Option.bind_some, n1, if_true, if_false, Bool.false_eq_true]
      have e1 := toByteS_eq (xs := l) (by omega) (k := 3000000) (by omega)
      have e2 := toVal_eq t n x (o := o) (by omega) (k := 3000000) (by omega)
      have e3 := impl_PutVal_eq (p := l) (by omega) t n x (o := o) (by omega) (k := 3000000) (by omega)
      have e4 := spec_PutVal_eq (p := l) (by omega) t n x (o := o) (by omega) (k := 3000000) (by omega)
      have e5 := eqByteS_self (xs := putVal l t n x o) (by omega) (k := 3000000) (by omega)
      have e6 := eqByteS_self (xs := l) (by omega) (k := 3000000) (by omega)
      have e7 := eqVal_self t n x (o := o) (by omega) (k := 3000000) (by omega)
      have e8 := markByteS_eq l 1 (by omega) (by omega) (by omega) (k := 3000000) (by omega)
      simp only [e1, e2, e3, e4, e5, e6, e7, e8, e, Option.bind_some, n2, if_true, if_false]
      exact fin _ (by omega)

end Go.Proofs.Ytkcgghgkmgbphaa.Pure
