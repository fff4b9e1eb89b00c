/- GetFrame of the program answers for every list of bytes what GetFrame of the reference answers, and shares no memory.
Conditions: those of the printed statement (sizes of what came in, each number of its kind). -/
import Derived.Test.YtkcgghgkmgbphaaEqFnExactGetFrame
namespace Go.Proofs.Ytkcgghgkmgbphaa.Pure
open Go.RowKit Go.Proofs.Ytkcgghgkmgbphaa.PFnExactGetFrame Go.Proofs.YtkcgghgkmgbphaaW.PrintWords Go.Proofs.YtkcgghgkmgbphaaW.PrintLast Go.Proofs.Ytkcgghgkmgbphaa.Base Go.Proofs.Ytkcgghgkmgbphaa.EqFnExactGetFrame

theorem getFrame_len {l : List Int} (hB : B l) : (getFrame l).2.2.2.1.length ≤ 20 := by
  unfold getFrame
  simp only
  generalize xNum l 0 false 1 = a
  generalize nextNum l a 1 = b
  generalize taggedAt l b.2.1 = g
  generalize (bif g then nextNum l b 2 else (0, b.2.1, b.2.2)) = c
  generalize xPart l c.2.1 c.2.2 3 = p
  cases h : frameOk a.1 b.1 c.1 p.1 with
  | false => simp
  | true =>
    have h2 : p.1.length ≤ 20 := by simp [frameOk] at h; omega
    cases !p.2.2 && (p.2.1 == (l.length : Int) && (true && !(g && c.1 == 0))) <;> simp [h2]
theorem FnExactGetFrame : laws_FnExactGetFrame.Pure := by
  intro l _ _ hw
  refine ⟨l.length + 100, ?_⟩
  have hB := B.of_wf hw
  unfold laws_FnExactGetFrame.f
  by_cases h : (l.length : Int) > 1048576
  · rw [if_pos h]
  · rw [if_neg h]
    have hl : l.length ≤ 1099511627776 := by omega
    have h20 := getFrame_len hB
    rw [toByteS_eq hl (by omega), Option.bind_some, spec_GetFrame_eq hB hl (by omega), Option.bind_some, Option.bind_some, impl_GetFrame_eq hB hl (by omega), Option.bind_some]
    generalize hg : getFrame l = x at *
    obtain ⟨d, s, t, b, ok⟩ := x
    simp only at h20 ⊢
    rw [eqFrame_self _ _ _ (by omega) (by omega), Option.bind_some, if_pos rfl, bne_self_eq_false]
    show laws_FnExactGetFrame.j0 (l.length + 97 + 1 + 1 + 1) l ok l ok false d s t b d s t b = some true
    simp only [laws_FnExactGetFrame.j0]
    rw [if_neg (by simp), toByteS_eq hl (by omega), Option.bind_some, eqByteS_self hl (by omega), Option.bind_some, if_pos rfl, markByteS_eq _ _ hl (by omega) (by omega) (by omega), Option.bind_some, if_neg (by simp only; omega), eqFrame_self _ _ _ (by omega) (by omega), Option.bind_some, if_pos rfl, bne_self_eq_false]
    simp only [laws_FnExactGetFrame.j1]
    rw [if_neg (by simp), markFrame_eq _ _ _ _ _ (by omega) (by omega) (by omega) (by omega), Option.bind_some]
    simp only
    rw [heldFrame_eq _ _ _ _ _ (by omega) (by omega) (by omega) (by omega), Option.bind_some, if_neg (by omega), if_pos rfl, toByteS_eq hl (by omega), Option.bind_some, impl_GetFrame_eq hB hl (by omega), Option.bind_some, hg]
    simp only
    rw [eqFrame_self _ _ _ (by omega) (by omega), Option.bind_some, if_pos rfl, bne_self_eq_false]
    simp only [laws_FnExactGetFrame.j2]
    rw [if_neg (by simp), heldFrame_eq _ _ _ _ _ (by omega) (by omega) (by omega) (by omega), Option.bind_some, if_neg (by omega), if_pos rfl]

end Go.Proofs.Ytkcgghgkmgbphaa.Pure
