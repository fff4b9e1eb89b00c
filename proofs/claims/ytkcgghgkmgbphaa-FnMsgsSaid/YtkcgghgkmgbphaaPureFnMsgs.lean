/- A drawn message is written as the reference writes it, reads back with its own word as what was written, with another word as of a wrong word, and cut short as none.
Conditions: those of the printed statement (sizes of what came in, each number of its kind). -/
import Derived.Test.YtkcgghgkmgbphaaEqFnMsgs
namespace Go.Proofs.Ytkcgghgkmgbphaa.Pure
open Go.RowKit Go.Proofs.Ytkcgghgkmgbphaa.PFnMsgs Go.Proofs.YtkcgghgkmgbphaaW.PrintWords Go.Proofs.YtkcgghgkmgbphaaW.PrintLast Go.Proofs.Ytkcgghgkmgbphaa.Base Go.Proofs.Ytkcgghgkmgbphaa.EqFnMsgs

theorem FnMsgs : laws_FnMsgs.Pure := by
  intro l hl _ _
  refine ⟨l.length + 700, ?_⟩
  unfold laws_FnMsgs.f laws_big.f
  rw [Option.bind_some]
  by_cases h : (l.length : Int) > 1048576
  · rw [if_pos (decide_eq_true h)]
  · rw [if_neg (by simpa using h)]
    obtain ⟨w, kd, id, x, y, m, e, hw, hm, hz⟩ := spec_DrawPutMsg_eq (b := l) (by omega) (k := l.length + 700) (by omega)
    have hS : Short 11 m := ⟨by omega, by omega, hz⟩
    rw [e, Option.bind_some]
    dsimp only
    rw [impl_PutMsg_eq w hS _ _ _ _ (by omega), Option.bind_some, spec_PutMsg_eq w hS _ _ _ _ (by omega), Option.bind_some]
    have hB := putMsg_B w (putPdu_B kd id x y m)
    have hL := putMsg_len w (putPdu kd id x y m)
    rw [sameBytes_self (by omega) (by omega), Option.bind_some, if_pos rfl]
    by_cases h0 : putMsg w (putPdu kd id x y m) = []
    · rw [if_pos (by rw [h0]; rfl)]
    · have hp := List.length_pos_iff.2 h0
      obtain ⟨_, _, p3, p4⟩ := putMsg_some h0
      rw [if_neg (by omega), impl_GetMsg_eq _ hB (by omega) (by omega), Option.bind_some, if_pos (by omega), impl_GetMsg_eq _ hB (by omega) (by omega), Option.bind_some, getMsg_put h0, getMsg_put h0, if_pos rfl]
      have hne : ¬ w = w ++ (⟨#[120]⟩ : ByteArray) := fun z => by
        have := congrArg ByteArray.size z
        rw [ByteArray.size_append] at this
        have h1 : (⟨#[120]⟩ : ByteArray).size = 1 := rfl
        omega
      rw [if_neg hne]
      obtain ⟨t, et⟩ : ∃ t, laws_at.f l 2 = some t ∧ 0 ≤ t := by
        unfold laws_at.f
        by_cases h2 : 2 < (l.length : Int)
        · rw [if_pos h2, if_pos (by omega)]
          have := B.at_ (B.of_wf (by assumption)) 2 (l := l)
          exact ⟨_, rfl, by rw [w64 (by omega) (by omega)]; omega⟩
        · rw [if_neg h2, w64 (n := 2 * 31) (by omega) (by omega), w64 (n := (l.length : Int) * 7) (by omega) (by omega), w64 (by omega) (by omega)]
          exact ⟨_, rfl, Int.tmod_nonneg _ (by omega)⟩
      have tr := tmod_range et.2 (n := ((putMsg w (putPdu kd id x y m)).length : Int)) (by omega)
      have hc := getMsg_cut w hB p4 p3 (j := (Int.tmod t ((putMsg w (putPdu kd id x y m)).length : Int)).toNat) (by omega)
      rw [et.1, Option.bind_some, if_pos tr.1, if_pos (by omega), impl_GetMsg_eq _ (hB.take _) (by rw [List.length_take]; omega) (by omega), Option.bind_some]
      dsimp only
      rw [if_pos rfl, samePdu_self (M := 11) _ _ _ _ (by omega) ⟨by omega, hz⟩ (by omega), Option.bind_some, if_pos rfl, if_pos (show (noMsg 3).2.2.2.2.2 = 3 from rfl), hc]; rfl

end Go.Proofs.Ytkcgghgkmgbphaa.Pure
