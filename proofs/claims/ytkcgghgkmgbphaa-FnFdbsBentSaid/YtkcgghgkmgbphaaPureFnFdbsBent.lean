/- What the tables of addresses do with any entries, right or not, is what those of the reference do.
Conditions: those of the printed statement (sizes of what came in, each number of its kind). -/
import Derived.Test.YtkcgghgkmgbphaaEqFnFdbsBent
namespace Go.Proofs.Ytkcgghgkmgbphaa.Pure
open Go.RowKit Go.Proofs.Ytkcgghgkmgbphaa.PFnFdbsBent Go.Proofs.YtkcgghgkmgbphaaW.PrintWords Go.Proofs.YtkcgghgkmgbphaaW.PrintLast Go.Proofs.Ytkcgghgkmgbphaa.Base Go.Proofs.Ytkcgghgkmgbphaa.EqFnFdbsBent

theorem FnFdbsBent : laws_FnFdbsBent.Pure := by
  intro l _ _ _
  refine ⟨l.length + 200, ?_⟩
  unfold laws_FnFdbsBent.f laws_big.f
  rw [Option.bind_some]
  by_cases h : (l.length : Int) > 1048576
  · rw [if_pos (decide_eq_true h)]
  · rw [if_neg (by simpa using h)]
    obtain ⟨x, t, m, p, e, hx⟩ := spec_DrawLearn_eq (b := l) (by omega) (k := l.length + 200) (by omega)
    have hL := learn_len x t m p
    have hS := setL_len x t m p
    simp only [e, Option.bind_some]
    rw [impl_SetStatic_eq t m p (by omega) (by omega), Option.bind_some, spec_SetStatic_eq t m p (by omega) (by omega), Option.bind_some]
    obtain ⟨x2, t2, m2, e, hx2⟩ := spec_DrawDropStatic_eq (b := l) (by omega) (k := l.length + 200) (by omega)
    have hD := dropL_len t2 m2 x2
    simp only [e, Option.bind_some]
    rw [impl_DropStatic_eq t2 m2 (by omega) (by omega), Option.bind_some, spec_DropStatic_eq t2 m2 (by omega) (by omega), Option.bind_some]
    obtain ⟨x3, t3, m3, e, hx3⟩ := spec_DrawNextEnt_eq (b := l) (by omega) (k := l.length + 200) (by omega)
    simp only [e, Option.bind_some]
    obtain ⟨x4, p4, e, hx4⟩ := spec_DrawFlushPort_eq (b := l) (by omega) (k := l.length + 200) (by omega)
    have hF : (flushL x4 p4).length ≤ 26 := Nat.le_trans (List.length_filter_le _ _) hx4
    simp only [e, Option.bind_some]
    rw [if_pos (by simp), if_pos (by simp), sameFdb_self (by omega) (by omega), Option.bind_some, if_pos rfl, sameFdb_self (by omega) (by omega), Option.bind_some, if_pos rfl, impl_Learn_eq t m p (by omega) (by omega), Option.bind_some, spec_Learn_eq t m p (by omega) (by omega), Option.bind_some, sameFdb_self (by omega) (by omega), Option.bind_some, if_pos rfl, impl_NextEnt_eq t3 m3 (by omega) (by omega), Option.bind_some, spec_NextEnt_eq t3 m3 (by omega) (by omega), Option.bind_some, if_pos rfl, impl_FlushPort_eq p4 (by omega) (by omega), Option.bind_some, spec_FlushPort_eq p4 (by omega) (by omega), Option.bind_some, sameFdb_self (by omega) (by omega), Option.bind_some, if_pos rfl, impl_FdbOk_eq (by omega) (by omega), Option.bind_some, spec_FdbOk_eq (by omega) (by omega), Option.bind_some]
    simp

end Go.Proofs.Ytkcgghgkmgbphaa.Pure
