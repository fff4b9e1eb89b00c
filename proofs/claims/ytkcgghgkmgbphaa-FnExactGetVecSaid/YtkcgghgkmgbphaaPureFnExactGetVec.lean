/- GetVec of the program answers for every list of bytes what GetVec of the reference answers.
Conditions: those of the printed statement (sizes of what came in, each number of its kind). -/
import Derived.Test.YtkcgghgkmgbphaaEqFnExactGetVec
namespace Go.Proofs.Ytkcgghgkmgbphaa.Pure
open Go.RowKit Go.Proofs.Ytkcgghgkmgbphaa.PFnExactGetVec Go.Proofs.YtkcgghgkmgbphaaW.PrintWords Go.Proofs.YtkcgghgkmgbphaaW.PrintLast Go.Proofs.Ytkcgghgkmgbphaa.Base Go.Proofs.Ytkcgghgkmgbphaa.EqFnExactGetVec

theorem FnExactGetVec : laws_FnExactGetVec.Pure := by
  intro l _ _ hw
  refine ⟨l.length + 100, ?_⟩
  have hB := B.of_wf hw
  unfold laws_FnExactGetVec.f
  by_cases h : (l.length : Int) > 1048576
  · rw [if_pos h]
  · rw [if_neg h]
    have hl : l.length ≤ 1099511627776 := by omega
    rw [toByteS_eq hl (by omega), Option.bind_some, spec_GetVec_eq hB hl (by omega), Option.bind_some, Option.bind_some, impl_GetVec_eq hB hl (by omega), Option.bind_some, eqVec_self, Option.bind_some, if_pos rfl]
    rw [show ((getVec l).2.2.2.2.2 != (getVec l).2.2.2.2.2) = false by simp]
    show laws_FnExactGetVec.j0 (l.length + 99 + 1) l l false = some true
    simp only [laws_FnExactGetVec.j0]
    rw [if_neg (by simp), toByteS_eq hl (by omega), Option.bind_some, eqByteS_self hl (by omega), Option.bind_some, if_pos rfl]

end Go.Proofs.Ytkcgghgkmgbphaa.Pure
