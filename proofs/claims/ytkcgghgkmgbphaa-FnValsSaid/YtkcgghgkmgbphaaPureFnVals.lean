/- a drawn value that is right comes back of its bytes; what is read is right, and has these bytes: proved over the functions that the walk shows to be computed.
Conditions: those of the printed statement (sizes of what came in, each number of its kind). -/
import Derived.Test.YtkcgghgkmgbphaaEqFnVals
namespace Go.Proofs.Ytkcgghgkmgbphaa.Pure
open Go.RowKit Go.Proofs.Ytkcgghgkmgbphaa.PFnVals Go.Proofs.YtkcgghgkmgbphaaW.PrintWords Go.Proofs.YtkcgghgkmgbphaaW.PrintLast Go.Proofs.Ytkcgghgkmgbphaa.Base Go.Proofs.Ytkcgghgkmgbphaa.EqFnVals

theorem FnVals : laws_FnVals.Pure := by
  intro l _ _ _
  refine ⟨l.length + 1300, ?_⟩
  unfold laws_FnVals.f laws_big.f
  rw [Option.bind_some]
  by_cases h : (l.length : Int) > 1048576
  · rw [if_pos (decide_eq_true h)]
  · rw [if_neg (by simpa using h)]
    obtain ⟨p, t, n, x, o, e, hp, hpl, hx, ho⟩ := spec_DrawPutVal_eq (b := l) (by omega) (k := l.length + 1300) (by omega)
    simp only [e, Option.bind_some]
    rw [impl_PutVal_eq (by omega) t n x (by omega) (by omega), Option.bind_some]
    obtain ⟨c, a, e, hB, hc, a0, a1⟩ := spec_DrawGetVal_eq (b := l) (by omega) (k := l.length + 1300) (by omega)
    simp only [e, Option.bind_some]
    rw [impl_GetVal_eq hB (by omega) ⟨a0, a1⟩ (by omega), Option.bind_some, spec_GetVal_eq hB (by omega) ⟨a0, a1⟩ (by omega), Option.bind_some]
    have fin : ∀ k, l.length + 1200 ≤ k → laws_FnVals.j0 k l p (putVal p t n x o) false t n x o = some true := by
      intro k hk
      obtain ⟨k, rfl⟩ : ∃ m, k = m + 1 := ⟨k - 1, by omega⟩
      have hq := putVal_len p t n x o
      simp only [laws_FnVals.j0]
      rw [if_neg (by simp), spec_ValOk_eq _ _ _ (by omega) (by omega), Option.bind_some]
      cases ok : valOk t n x o with
      | true =>
        have hg := getVal_put p [] ok
        rw [List.append_nil] at hg
        obtain ⟨t1, n1, x1, o1, t2, n2, x2, o2, e, h1, h2⟩ := spec_DrawSameVal_eq (b := l) (by omega) (k := k) (by omega)
        rw [if_pos rfl, impl_GetVal_eq (putVal_B hp _ _ _ _) (by omega) (by omega) (by omega), Option.bind_some, hg, e, Option.bind_some, if_pos rfl]
        dsimp only
        rw [impl_SameVal_eq _ _ _ _ _ _ _ (by omega) (by omega), Option.bind_some, if_pos (decide_eq_true ⟨rfl, rfl, rfl, rfl⟩), if_pos rfl, impl_ValOk_eq _ _ _ (by omega) (by omega), Option.bind_some, ok, if_pos rfl, impl_SameVal_eq _ _ _ _ _ _ _ (by omega) (by omega), Option.bind_some, spec_SameVal_eq _ _ _ _ _ _ _ (by omega) (by omega), Option.bind_some, beq_self_eq_true]
      | false =>
        have e0 : putVal p t n x o = p := by unfold putVal; rw [ok]; rfl
        rw [if_neg (by simp), e0, sameBytes_self (by omega) (by omega), Option.bind_some, if_pos rfl, impl_ValOk_eq _ _ _ (by omega) (by omega), Option.bind_some, ok]; rfl
    rw [if_neg (by simp)]
    cases hok : (getVal c a).2.2.2.2.2 with
    | true =>
      have hg := getVal_bytes hB (a := a) (k := (getVal c a).1) (n := (getVal c a).2.1) (s := (getVal c a).2.2.1) (o := (getVal c a).2.2.2.1) (e := (getVal c a).2.2.2.2.1) (by rw [← hok])
      have hol : (getVal c a).2.2.2.1.length ≤ 10 := by
        have h1 := hg.1
        unfold valOk at h1
        split at h1
        · have := of_decide_eq_true h1; omega
        · split at h1
          · have := of_decide_eq_true h1; omega
          · split at h1
            · rw [Bool.and_eq_true] at h1; exact (oidOk_iff.1 h1.1).2.2
            · split at h1
              · have := of_decide_eq_true h1; omega
              · simp at h1
      have hl := putVal_len [] (getVal c a).1 (getVal c a).2.1 (getVal c a).2.2.1 (getVal c a).2.2.2.1
      rw [List.length_nil] at hl
      rw [if_pos rfl, impl_ValOk_eq _ _ _ (by omega) (by omega), Option.bind_some, hg.1, if_pos rfl, impl_PutVal_eq (by rw [List.length_nil]; omega) _ _ _ (by omega) (by omega), Option.bind_some, if_pos hg.2.1, if_pos hg.2.2.1, if_pos hg.2.2.2.1, hg.2.2.2.2.1, sameBytes_self (by rw [← hg.2.2.2.2.1]; omega) (by rw [← hg.2.2.2.2.1]; omega), Option.bind_some]
      exact fin _ (by omega)
    | false =>
      rw [if_neg (by decide)]
      exact fin _ (by omega)

end Go.Proofs.Ytkcgghgkmgbphaa.Pure
