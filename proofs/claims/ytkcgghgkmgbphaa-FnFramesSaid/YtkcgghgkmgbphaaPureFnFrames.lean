/- A frame that is right is written as bytes that read back as it; bytes that are read as a frame are those that are written of it; a tag that is set stands, and nothing else; both sides agree.
Conditions: those of the printed statement (sizes of what came in, each number of its kind). -/
import Derived.Test.YtkcgghgkmgbphaaEqFnFrames
namespace Go.Proofs.Ytkcgghgkmgbphaa.Pure
open Go.RowKit Go.Proofs.Ytkcgghgkmgbphaa.PFnFrames Go.Proofs.YtkcgghgkmgbphaaW.PrintWords Go.Proofs.YtkcgghgkmgbphaaW.PrintLast Go.Proofs.Ytkcgghgkmgbphaa.Base Go.Proofs.Ytkcgghgkmgbphaa.EqFnFrames

theorem FnFrames : laws_FnFrames.Pure := by
  intro l _ _ _
  refine ⟨l.length + 200, ?_⟩
  unfold laws_FnFrames.f laws_big.f
  rw [Option.bind_some]
  by_cases h : (l.length : Int) > 1048576
  · rw [if_pos (decide_eq_true h)]
  · rw [if_neg (by simpa using h)]
    obtain ⟨d, s, t, b, e, hb, hbl⟩ := spec_DrawPutFrame_eq (b := l) (by omega) (k := l.length + 200) (by omega)
    simp only [e, Option.bind_some]
    rw [impl_PutFrame_eq d s t (by omega) (by omega), Option.bind_some]
    obtain ⟨x, e, hB, hx⟩ := spec_DrawGetFrame_eq (b := l) (by omega) (k := l.length + 200) (by omega)
    simp only [e, Option.bind_some]
    rw [impl_GetFrame_eq hB (by omega) (by omega), Option.bind_some, spec_GetFrame_eq hB (by omega) (by omega), Option.bind_some]
    obtain ⟨d2, s2, t2, b2, g2, e, hb2⟩ := spec_DrawTagged_eq (b := l) (by omega) (k := l.length + 200) (by omega)
    simp only [e, Option.bind_some]
    unfold impl_Tagged.f
    rw [impl_copyBytes_eq' (by omega)]
    simp only [Option.bind_some]
    have fin : ∀ k, 61 ≤ k → laws_FnFrames.j0 k (putFrame d s t b) false d s t b = some true := by
      intro k hk
      obtain ⟨k, rfl⟩ : ∃ m, k = m + 1 := ⟨k - 1, by omega⟩
      have hp := putFrame_len d s t b
      simp only [laws_FnFrames.j0]
      rw [if_neg (by simp), spec_FrameOk_eq, Option.bind_some]
      cases ok : frameOk d s t b with
      | true =>
        rw [if_pos rfl, impl_GetFrame_eq (putFrame_B d s t hb) (by omega) (by omega), Option.bind_some, getFrame_put ok, if_pos rfl, impl_SameFrame_self, Option.bind_some, if_pos rfl, impl_FrameOk_eq, Option.bind_some, ok]; rfl
      | false =>
        have e0 : putFrame d s t b = [] := by unfold putFrame; rw [ok]; rfl
        rw [if_neg (by simp), e0, if_pos (by simp), impl_FrameOk_eq, Option.bind_some, ok]; rfl
    rw [if_neg (by simp), sameBytes_self (l := b2) (by omega) (by omega)]
    simp only [Option.bind_some, if_true]
    by_cases hok : (getFrame x).2.2.2.2 = true
    · obtain ⟨g1, g2, g3⟩ := putFrame_get hB hok
      rw [if_pos hok, impl_FrameOk_eq, Option.bind_some, g1, if_pos rfl, impl_PutFrame_eq _ _ _ (by omega) (by omega), Option.bind_some, g2, sameBytes_self (by omega) (by omega), Option.bind_some, if_pos rfl]
      exact fin _ (by omega)
    · rw [if_neg hok]
      exact fin _ (by omega)

end Go.Proofs.Ytkcgghgkmgbphaa.Pure
