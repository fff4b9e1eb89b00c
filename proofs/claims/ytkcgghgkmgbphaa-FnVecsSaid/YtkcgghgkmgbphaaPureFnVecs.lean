/- A vector that is right is written as bytes that read back as it; bytes that are read as a vector are those that are written of it; both sides agree.
Conditions: those of the printed statement (sizes of what came in, each number of its kind). -/
import Derived.Test.YtkcgghgkmgbphaaEqFnVecs
namespace Go.Proofs.Ytkcgghgkmgbphaa.Pure
open Go.RowKit Go.Proofs.Ytkcgghgkmgbphaa.PFnVecs Go.Proofs.YtkcgghgkmgbphaaW.PrintWords Go.Proofs.YtkcgghgkmgbphaaW.PrintLast Go.Proofs.Ytkcgghgkmgbphaa.Base Go.Proofs.Ytkcgghgkmgbphaa.EqFnVecs

theorem FnVecs : laws_FnVecs.Pure := by
  intro l _ _ _
  refine ⟨l.length + 200, ?_⟩
  unfold laws_FnVecs.f laws_big.f
  rw [Option.bind_some]
  by_cases h : (l.length : Int) > 1048576
  · rw [if_pos (decide_eq_true h)]
  · rw [if_neg (by simpa using h)]
    obtain ⟨r, c, hh, b, p, e⟩ := spec_DrawPutVec_eq (b := l) (by omega) (k := l.length + 200) (by omega)
    simp only [e, Option.bind_some]
    rw [impl_PutVec_eq r c hh b p (by omega), Option.bind_some]
    obtain ⟨x, e, hB, hx⟩ := spec_DrawGetVec_eq (b := l) (by omega) (k := l.length + 200) (by omega)
    simp only [e, Option.bind_some]
    rw [impl_GetVec_eq hB (by omega) (by omega), Option.bind_some, spec_GetVec_eq hB (by omega) (by omega), Option.bind_some]
    have fin : ∀ k, 60 ≤ k → laws_FnVecs.j0 k (putVec r c hh b p) false r c hh b p = some true := by
      intro k hk
      obtain ⟨k, rfl⟩ : ∃ m, k = m + 1 := ⟨k - 1, by omega⟩
      have hp := putVec_len r c hh b p
      simp only [laws_FnVecs.j0]
      rw [if_neg (by simp), spec_VecOk_eq, Option.bind_some]
      cases ok : vecOk r c hh b p with
      | true =>
        rw [if_pos rfl, impl_GetVec_eq (putVec_B _ _ _ _ _) (by omega) (by omega), Option.bind_some, getVec_put ok, if_pos rfl, if_pos (by simp), impl_VecOk_eq, Option.bind_some, ok]
      | false =>
        have e0 : putVec r c hh b p = [] := by unfold putVec; rw [ok]; rfl
        rw [if_neg (by simp), e0, if_pos (by simp), impl_VecOk_eq, Option.bind_some, ok]; rfl
    rw [if_neg (by simp)]
    by_cases hok : (getVec x).2.2.2.2.2 = true
    · obtain ⟨g1, g2⟩ := putVec_get hB hok
      rw [if_pos hok, impl_VecOk_eq, Option.bind_some, g1, if_pos rfl, impl_PutVec_eq _ _ _ _ _ (by omega), Option.bind_some, g2, sameBytes_self (by omega) (by omega), Option.bind_some]
      exact fin _ (by omega)
    · rw [if_neg hok]
      exact fin _ (by omega)

end Go.Proofs.Ytkcgghgkmgbphaa.Pure
