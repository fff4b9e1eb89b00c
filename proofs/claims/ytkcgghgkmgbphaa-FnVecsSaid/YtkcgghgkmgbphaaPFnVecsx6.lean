-- WRITTEN BY a turned copy of the kit's printer (wip/patch_print.py), for this claim
import Derived.Test.YtkcgghgkmgbphaaPFnVecsx0
import Derived.Test.YtkcgghgkmgbphaaPFnVecsx5
namespace Go.Proofs.Ytkcgghgkmgbphaa.PFnVecs
open Go.RowKit Go.Proofs.YtkcgghgkmgbphaaW.PrintWords Go.Proofs.YtkcgghgkmgbphaaW.PrintLast Go.Proofs.YtkcgghgkmgbphaaW.PrintMore
attribute [local go_sem] max2_int min2_int max_two min_two max_three min_three max_four min_four   -- for this text's walks alone
set_option linter.unusedVariables false
set_option linter.unusedSimpArgs false

/-! ### impl_GetTlv: function 112 -/
def impl_GetTlv.f (l0 : List Int) (a1 : Int) : Option (Int × List Int × Int × Bool) := if a1 < 0 then (some (0, ([] : List Int), 0, false)) else (if a1 > (wrap64 ((l0.length : Int) - 2)) then (some (0, ([] : List Int), 0, false)) else (if 0 ≤ (wrap64 (a1 + 1)) then (if (wrap64 (a1 + 1)) < (l0.length : Int) then (if (wrap64 (rd l0 (wrap64 (a1 + 1)))) ≥ 128 then (if (wrap64 (rd l0 (wrap64 (a1 + 1)))) = 129 then (if (wrap64 (a1 + 2)) ≥ (l0.length : Int) then (some (0, ([] : List Int), 0, false)) else (if 0 ≤ (wrap64 (a1 + 2)) then (if (wrap64 (a1 + 2)) < (l0.length : Int) then (if (rd l0 (wrap64 (a1 + 2))) < 128 then (some (0, ([] : List Int), 0, false)) else (if (wrap64 (rd l0 (wrap64 (a1 + 2)))) > 250 then (some (0, ([] : List Int), 0, false)) else (if (wrap64 (rd l0 (wrap64 (a1 + 2)))) > (wrap64 ((l0.length : Int) - (wrap64 ((wrap64 (a1 + 2)) + 1)))) then (some (0, ([] : List Int), 0, false)) else (if 0 ≤ a1 then (if a1 < (l0.length : Int) then (if 0 ≤ (wrap64 ((wrap64 (a1 + 2)) + 1)) then (if (wrap64 ((wrap64 (a1 + 2)) + 1)) ≤ (wrap64 ((wrap64 ((wrap64 (a1 + 2)) + 1)) + (wrap64 (rd l0 (wrap64 (a1 + 2)))))) then (if (wrap64 ((wrap64 ((wrap64 (a1 + 2)) + 1)) + (wrap64 (rd l0 (wrap64 (a1 + 2)))))) ≤ (l0.length : Int) then ((impl_copyBytes.f ((l0.take ((wrap64 ((wrap64 ((wrap64 (a1 + 2)) + 1)) + (wrap64 (rd l0 (wrap64 (a1 + 2)))))) : Int).toNat).drop ((wrap64 ((wrap64 (a1 + 2)) + 1)) : Int).toNat)).bind fun t235 => (some (wrap64 (rd l0 a1), t235, wrap64 ((wrap64 ((wrap64 (a1 + 2)) + 1)) + (wrap64 (rd l0 (wrap64 (a1 + 2))))), true))) else (none)) else (none)) else (none)) else (none)) else (none))))) else (none)) else (none))) else (some (0, ([] : List Int), 0, false))) else (if (wrap64 (rd l0 (wrap64 (a1 + 1)))) > 250 then (some (0, ([] : List Int), 0, false)) else (if (wrap64 (rd l0 (wrap64 (a1 + 1)))) > (wrap64 ((l0.length : Int) - (wrap64 (a1 + 2)))) then (some (0, ([] : List Int), 0, false)) else (if 0 ≤ a1 then (if a1 < (l0.length : Int) then (if 0 ≤ (wrap64 (a1 + 2)) then (if (wrap64 (a1 + 2)) ≤ (wrap64 ((wrap64 (a1 + 2)) + (wrap64 (rd l0 (wrap64 (a1 + 1)))))) then (if (wrap64 ((wrap64 (a1 + 2)) + (wrap64 (rd l0 (wrap64 (a1 + 1)))))) ≤ (l0.length : Int) then ((impl_copyBytes.f ((l0.take ((wrap64 ((wrap64 (a1 + 2)) + (wrap64 (rd l0 (wrap64 (a1 + 1)))))) : Int).toNat).drop ((wrap64 (a1 + 2)) : Int).toNat)).bind fun t240 => (some (wrap64 (rd l0 a1), t240, wrap64 ((wrap64 (a1 + 2)) + (wrap64 (rd l0 (wrap64 (a1 + 1))))), true))) else (none)) else (none)) else (none)) else (none)) else (none))))) else (none)) else (none)))
def impl_GetTlv.T11 : Bool × List (List Nat × List Nat) := (true, [([], []), ([], []), ([0, 1], [0, 1]), ([2], [2]), ([3], [3]), ([], []), ([], []), ([], []), ([], []), ([7, 8], [7, 8]), ([5, 6, 9], [5, 6, 9]), ([10], [10]), ([], []), ([], []), ([12, 13], [12, 13]), ([4, 11, 0, 1, 2, 3, 4], [4]), ([11, 15, 0, 1, 2, 3, 4, 5, 6, 7, 8, 9, 10, 11, 15], [11]), ([14, 16, 0, 1, 2, 3, 4, 5, 6, 7, 8, 9, 10, 11, 12, 13, 14, 15, 16], [14]), ([17, 0, 1, 2, 3, 4, 5, 6, 7, 8, 9, 10, 11, 12, 13, 14, 15, 16, 17], [])])
def impl_GetTlv.B11 : List Nat := [0, 0, 3, 7, 15, 0, 0, 0, 0, 384, 992, 2016, 0, 0, 12288, 4095, 36863, 131071, 262143]
theorem impl_GetTlv.tab11 : rtab .any (opsOf Try.f112 11) = impl_GetTlv.T11 := by kernel_rfl
theorem impl_GetTlv.bits11 : waitsOk impl_GetTlv.T11.2 impl_GetTlv.B11 = true := by kernel_rfl
set_option maxHeartbeats 8000000 in
set_option maxRecDepth 100000 in
theorem impl_GetTlv.calls (A0 : Option Addr) (c0 : Nat) (l0 : List Int) (a1 : Int) (r1 : Int) (r2 : List Int) (r3 : Int) (r4 : Bool) (w : World) (hr0 : Kd.C (Kd.int .u8) w A0 l0.length l0) (hc0 : l0.length ≤ c0) (h : impl_GetTlv.f l0 a1 = some (r1, r2, r3, r4)) :
  Calls Try.prog 112 #[.slice A0 l0.length c0, .int .i64 a1] w fun e w' => ∃ v1_ : Value, e = .returned (.tuple #[.int .i64 r1, v1_, .int .i64 r3, .bool r4]) ∧ Kd.R (Kd.int .u8) 5 w' w.heap.size (fun _ => True) v1_ r2 ∧ Below w.heap.size w w' := by
 have HR0 := zA hr0
 have HC0 := zA hc0
 clear hr0 hc0
 have HB := zA (Below.refl w.heap.size w)
 have H : (if a1 < 0 then (some (0, ([] : List Int), 0, false)) else (if a1 > (wrap64 ((l0.length : Int) - 2)) then (some (0, ([] : List Int), 0, false)) else (if 0 ≤ (wrap64 (a1 + 1)) then (if (wrap64 (a1 + 1)) < (l0.length : Int) then (if (wrap64 (rd l0 (wrap64 (a1 + 1)))) ≥ 128 then (if (wrap64 (rd l0 (wrap64 (a1 + 1)))) = 129 then (if (wrap64 (a1 + 2)) ≥ (l0.length : Int) then (some (0, ([] : List Int), 0, false)) else (if 0 ≤ (wrap64 (a1 + 2)) then (if (wrap64 (a1 + 2)) < (l0.length : Int) then (if (rd l0 (wrap64 (a1 + 2))) < 128 then (some (0, ([] : List Int), 0, false)) else (if (wrap64 (rd l0 (wrap64 (a1 + 2)))) > 250 then (some (0, ([] : List Int), 0, false)) else (if (wrap64 (rd l0 (wrap64 (a1 + 2)))) > (wrap64 ((l0.length : Int) - (wrap64 ((wrap64 (a1 + 2)) + 1)))) then (some (0, ([] : List Int), 0, false)) else (if 0 ≤ a1 then (if a1 < (l0.length : Int) then (if 0 ≤ (wrap64 ((wrap64 (a1 + 2)) + 1)) then (if (wrap64 ((wrap64 (a1 + 2)) + 1)) ≤ (wrap64 ((wrap64 ((wrap64 (a1 + 2)) + 1)) + (wrap64 (rd l0 (wrap64 (a1 + 2)))))) then (if (wrap64 ((wrap64 ((wrap64 (a1 + 2)) + 1)) + (wrap64 (rd l0 (wrap64 (a1 + 2)))))) ≤ (l0.length : Int) then ((impl_copyBytes.f ((l0.take ((wrap64 ((wrap64 ((wrap64 (a1 + 2)) + 1)) + (wrap64 (rd l0 (wrap64 (a1 + 2)))))) : Int).toNat).drop ((wrap64 ((wrap64 (a1 + 2)) + 1)) : Int).toNat)).bind fun t235 => (some (wrap64 (rd l0 a1), t235, wrap64 ((wrap64 ((wrap64 (a1 + 2)) + 1)) + (wrap64 (rd l0 (wrap64 (a1 + 2))))), true))) else (none)) else (none)) else (none)) else (none)) else (none))))) else (none)) else (none))) else (some (0, ([] : List Int), 0, false))) else (if (wrap64 (rd l0 (wrap64 (a1 + 1)))) > 250 then (some (0, ([] : List Int), 0, false)) else (if (wrap64 (rd l0 (wrap64 (a1 + 1)))) > (wrap64 ((l0.length : Int) - (wrap64 (a1 + 2)))) then (some (0, ([] : List Int), 0, false)) else (if 0 ≤ a1 then (if a1 < (l0.length : Int) then (if 0 ≤ (wrap64 (a1 + 2)) then (if (wrap64 (a1 + 2)) ≤ (wrap64 ((wrap64 (a1 + 2)) + (wrap64 (rd l0 (wrap64 (a1 + 1)))))) then (if (wrap64 ((wrap64 (a1 + 2)) + (wrap64 (rd l0 (wrap64 (a1 + 1)))))) ≤ (l0.length : Int) then ((impl_copyBytes.f ((l0.take ((wrap64 ((wrap64 (a1 + 2)) + (wrap64 (rd l0 (wrap64 (a1 + 1)))))) : Int).toNat).drop ((wrap64 (a1 + 2)) : Int).toNat)).bind fun t240 => (some (wrap64 (rd l0 a1), t240, wrap64 ((wrap64 (a1 + 2)) + (wrap64 (rd l0 (wrap64 (a1 + 1))))), true))) else (none)) else (none)) else (none)) else (none)) else (none))))) else (none)) else (none)))) = some (r1, r2, r3, r4) := h
 clear h
 by_cases c3 : a1 < 0
 ·rw [if_pos c3] at H
  have c3b0 : decide (a1 < 0) = true := decide_eq_true c3
  clear c3
  simp only [Option.some.injEq, Prod.mk.injEq] at H
  obtain ⟨rfl, rfl, rfl, rfl⟩ := H
  go_enter Try.func112, Try.ntmps112
  go_wp2
  refine bodyPost_ret (results_list (rs := [.tmp 4, .tmp 5, .tmp 6, .tmp 7]) rfl zq48 (.tmp (.tmp (.tmp (.tmp .nil))))) rfl ?_
  exact ⟨_, by first | rfl | (simp [errW_none, errW_some] <;> rfl) | (simp [*, errW_none, errW_some] <;> rfl), by first | exact Kd.R_nil _ _ _ _ _ | exact Kd.N_nil _ _ _ _ _ | exact Kd.V_nil _ _ _ _ _ | exact Kd.Q_nil _ _ _ _ _ | exact Kd.S_nil _ _ _ _ _, by repeat (first | (with_reducible first | exact HB.out | apply below_alloc | apply pw_below_drewN | apply below_drew1) | exact HB.out)⟩
 ·rw [if_neg c3] at H
  have c3b0 : decide (a1 < 0) = false := decide_eq_false c3
  clear c3
  by_cases c4 : a1 > (wrap64 ((l0.length : Int) - 2))
  ·rw [if_pos c4] at H
   have c4b0 : decide ((wrap64 ((l0.length : Int) - 2)) < a1) = true := decide_eq_true c4
   clear c4
   simp only [Option.some.injEq, Prod.mk.injEq] at H
   obtain ⟨rfl, rfl, rfl, rfl⟩ := H
   go_enter Try.func112, Try.ntmps112
   go_wp2
   refine bodyPost_ret (results_list (rs := [.tmp 4, .tmp 5, .tmp 6, .tmp 7]) rfl zq48 (.tmp (.tmp (.tmp (.tmp .nil))))) rfl ?_
   exact ⟨_, by first | rfl | (simp [errW_none, errW_some] <;> rfl) | (simp [*, errW_none, errW_some] <;> rfl), by first | exact Kd.R_nil _ _ _ _ _ | exact Kd.N_nil _ _ _ _ _ | exact Kd.V_nil _ _ _ _ _ | exact Kd.Q_nil _ _ _ _ _ | exact Kd.S_nil _ _ _ _ _, by repeat (first | (with_reducible first | exact HB.out | apply below_alloc | apply pw_below_drewN | apply below_drew1) | exact HB.out)⟩
  ·rw [if_neg c4] at H
   have c4b0 : decide ((wrap64 ((l0.length : Int) - 2)) < a1) = false := decide_eq_false c4
   clear c4
   obtain ⟨ji5, hji5⟩ : ∃ j_ : Int, (wrap64 (a1 + 1)) = j_ := ⟨_, rfl⟩
   replace H : (if 0 ≤ (ji5) then (if (ji5) < (l0.length : Int) then (if (wrap64 (rd l0 (ji5))) ≥ 128 then (if (wrap64 (rd l0 (ji5))) = 129 then (if (wrap64 (a1 + 2)) ≥ (l0.length : Int) then (some (0, ([] : List Int), 0, false)) else (if 0 ≤ (wrap64 (a1 + 2)) then (if (wrap64 (a1 + 2)) < (l0.length : Int) then (if (rd l0 (wrap64 (a1 + 2))) < 128 then (some (0, ([] : List Int), 0, false)) else (if (wrap64 (rd l0 (wrap64 (a1 + 2)))) > 250 then (some (0, ([] : List Int), 0, false)) else (if (wrap64 (rd l0 (wrap64 (a1 + 2)))) > (wrap64 ((l0.length : Int) - (wrap64 ((wrap64 (a1 + 2)) + 1)))) then (some (0, ([] : List Int), 0, false)) else (if 0 ≤ a1 then (if a1 < (l0.length : Int) then (if 0 ≤ (wrap64 ((wrap64 (a1 + 2)) + 1)) then (if (wrap64 ((wrap64 (a1 + 2)) + 1)) ≤ (wrap64 ((wrap64 ((wrap64 (a1 + 2)) + 1)) + (wrap64 (rd l0 (wrap64 (a1 + 2)))))) then (if (wrap64 ((wrap64 ((wrap64 (a1 + 2)) + 1)) + (wrap64 (rd l0 (wrap64 (a1 + 2)))))) ≤ (l0.length : Int) then ((impl_copyBytes.f ((l0.take ((wrap64 ((wrap64 ((wrap64 (a1 + 2)) + 1)) + (wrap64 (rd l0 (wrap64 (a1 + 2)))))) : Int).toNat).drop ((wrap64 ((wrap64 (a1 + 2)) + 1)) : Int).toNat)).bind fun t235 => (some (wrap64 (rd l0 a1), t235, wrap64 ((wrap64 ((wrap64 (a1 + 2)) + 1)) + (wrap64 (rd l0 (wrap64 (a1 + 2))))), true))) else (none)) else (none)) else (none)) else (none)) else (none))))) else (none)) else (none))) else (some (0, ([] : List Int), 0, false))) else (if (wrap64 (rd l0 (ji5))) > 250 then (some (0, ([] : List Int), 0, false)) else (if (wrap64 (rd l0 (ji5))) > (wrap64 ((l0.length : Int) - (wrap64 (a1 + 2)))) then (some (0, ([] : List Int), 0, false)) else (if 0 ≤ a1 then (if a1 < (l0.length : Int) then (if 0 ≤ (wrap64 (a1 + 2)) then (if (wrap64 (a1 + 2)) ≤ (wrap64 ((wrap64 (a1 + 2)) + (wrap64 (rd l0 (ji5))))) then (if (wrap64 ((wrap64 (a1 + 2)) + (wrap64 (rd l0 (ji5))))) ≤ (l0.length : Int) then ((impl_copyBytes.f ((l0.take ((wrap64 ((wrap64 (a1 + 2)) + (wrap64 (rd l0 (ji5))))) : Int).toNat).drop ((wrap64 (a1 + 2)) : Int).toNat)).bind fun t240 => (some (wrap64 (rd l0 a1), t240, wrap64 ((wrap64 (a1 + 2)) + (wrap64 (rd l0 (ji5)))), true))) else (none)) else (none)) else (none)) else (none)) else (none))))) else (none)) else (none)) = some (r1, r2, r3, r4) := by first | (rw [hji5] at H; exact H) | (simp only [hji5] at H ⊢; exact H)
   have hji5w : (IntKind.i64.wrap (a1 + 1)) = ji5 := (i64_w _).trans hji5
   by_cases c6 : 0 ≤ (ji5)
   ·rw [if_pos c6] at H
    have c6b0 : decide (0 ≤ (ji5)) = true := decide_eq_true c6
    clear c6
    by_cases c7 : (ji5) < (l0.length : Int)
    ·rw [if_pos c7] at H
     have c7b0 : decide ((ji5) < (l0.length : Int)) = true := decide_eq_true c7
     clear c7
     by_cases c8 : (wrap64 (rd l0 (ji5))) ≥ 128
     ·rw [if_pos c8] at H
      have c8b0 : decide (128 ≤ (wrap64 (rd l0 (ji5)))) = true := decide_eq_true c8
      clear c8
      by_cases c9 : (wrap64 (rd l0 (ji5))) = 129
      ·rw [if_pos c9] at H
       have c9b0 : ((wrap64 (rd l0 (ji5))) == 129) = true := beq_iff_eq.mpr c9
       have c9b1 : ((wrap64 (rd l0 (ji5))) != 129) = false := bne_eq_false_iff_eq.mpr c9
       clear c9
       by_cases c10 : (wrap64 (a1 + 2)) ≥ (l0.length : Int)
       ·rw [if_pos c10] at H
        have c10b0 : decide ((l0.length : Int) ≤ (wrap64 (a1 + 2))) = true := decide_eq_true c10
        clear c10
        simp only [Option.some.injEq, Prod.mk.injEq] at H
        obtain ⟨rfl, rfl, rfl, rfl⟩ := H
        have p230 : 0 ≤ ((ji5) : Int) := of_decide_eq_true zq4
        have q230 : (ji5) < (l0.length : Int) := of_decide_eq_true zq4
        obtain ⟨ad230, e230, hx230_0⟩ := Kd.at_int HR0.out (ji5) p230 q230
        cases e230
        replace p230 := eq_true p230
        replace q230 := eq_true q230
        go_enter Try.func112, Try.ntmps112
        go_wp2
        refine bodyPost_ret (results_list (rs := [.tmp 4, .tmp 5, .tmp 6, .tmp 7]) rfl zq48 (.tmp (.tmp (.tmp (.tmp .nil))))) rfl ?_
        exact ⟨_, by first | rfl | (simp [errW_none, errW_some] <;> rfl) | (simp only [← hji5]; first | rfl | (simp [errW_none, errW_some] <;> rfl)) | (simp [*, errW_none, errW_some] <;> rfl), by first | exact Kd.R_nil _ _ _ _ _ | exact Kd.N_nil _ _ _ _ _ | exact Kd.V_nil _ _ _ _ _ | exact Kd.Q_nil _ _ _ _ _ | exact Kd.S_nil _ _ _ _ _, by repeat (first | (with_reducible first | exact HB.out | apply below_alloc | apply pw_below_drewN | apply below_drew1) | exact HB.out)⟩
       ·rw [if_neg c10] at H
        have c10b0 : decide ((l0.length : Int) ≤ (wrap64 (a1 + 2))) = false := decide_eq_false c10
        clear c10
        obtain ⟨ji11, hji11⟩ : ∃ j_ : Int, (wrap64 (a1 + 2)) = j_ := ⟨_, rfl⟩
        replace H : (if 0 ≤ (ji11) then (if (ji11) < (l0.length : Int) then (if (rd l0 (ji11)) < 128 then (some (0, ([] : List Int), 0, false)) else (if (wrap64 (rd l0 (ji11))) > 250 then (some (0, ([] : List Int), 0, false)) else (if (wrap64 (rd l0 (ji11))) > (wrap64 ((l0.length : Int) - (wrap64 ((ji11) + 1)))) then (some (0, ([] : List Int), 0, false)) else (if 0 ≤ a1 then (if a1 < (l0.length : Int) then (if 0 ≤ (wrap64 ((ji11) + 1)) then (if (wrap64 ((ji11) + 1)) ≤ (wrap64 ((wrap64 ((ji11) + 1)) + (wrap64 (rd l0 (ji11))))) then (if (wrap64 ((wrap64 ((ji11) + 1)) + (wrap64 (rd l0 (ji11))))) ≤ (l0.length : Int) then ((impl_copyBytes.f ((l0.take ((wrap64 ((wrap64 ((ji11) + 1)) + (wrap64 (rd l0 (ji11))))) : Int).toNat).drop ((wrap64 ((ji11) + 1)) : Int).toNat)).bind fun t235 => (some (wrap64 (rd l0 a1), t235, wrap64 ((wrap64 ((ji11) + 1)) + (wrap64 (rd l0 (ji11)))), true))) else (none)) else (none)) else (none)) else (none)) else (none))))) else (none)) else (none)) = some (r1, r2, r3, r4) := by first | (rw [hji11] at H; exact H) | (simp only [hji11] at H ⊢; exact H)
        (try rw [hji11] at c10b0)
        have hji11w : (IntKind.i64.wrap (a1 + 2)) = ji11 := (i64_w _).trans hji11
        by_cases c12 : 0 ≤ (ji11)
        ·rw [if_pos c12] at H
         have c12b0 : decide (0 ≤ (ji11)) = true := decide_eq_true c12
         clear c12
         by_cases c13 : (ji11) < (l0.length : Int)
         ·rw [if_pos c13] at H
          have c13b0 : decide ((ji11) < (l0.length : Int)) = true := decide_eq_true c13
          clear c13
          by_cases c14 : (rd l0 (ji11)) < 128
          ·rw [if_pos c14] at H
           have c14b0 : decide ((rd l0 (ji11)) < 128) = true := decide_eq_true c14
           clear c14
           simp only [Option.some.injEq, Prod.mk.injEq] at H
           obtain ⟨rfl, rfl, rfl, rfl⟩ := H
           have p230 : 0 ≤ ((ji5) : Int) := of_decide_eq_true zq4
           have q230 : (ji5) < (l0.length : Int) := of_decide_eq_true zq4
           obtain ⟨ad230, e230, hx230_0⟩ := Kd.at_int HR0.out (ji5) p230 q230
           cases e230
           replace p230 := eq_true p230
           replace q230 := eq_true q230
           have p231 : 0 ≤ ((ji11) : Int) := of_decide_eq_true zq4
           have q231 : (ji11) < (l0.length : Int) := of_decide_eq_true zq4
           obtain ⟨ad231, e231, hx231_0⟩ := Kd.at_int HR0.out (ji11) p231 q231
           obtain rfl : ad230 = ad231 := (by injection e231)
           replace p231 := eq_true p231
           replace q231 := eq_true q231
           go_enter Try.func112, Try.ntmps112
           go_wp2
           refine bodyPost_ret (results_list (rs := [.tmp 4, .tmp 5, .tmp 6, .tmp 7]) rfl zq48 (.tmp (.tmp (.tmp (.tmp .nil))))) rfl ?_
           exact ⟨_, by first | rfl | (simp [errW_none, errW_some] <;> rfl) | (simp only [← hji5, ← hji11]; first | rfl | (simp [errW_none, errW_some] <;> rfl)) | (simp [*, errW_none, errW_some] <;> rfl), by first | exact Kd.R_nil _ _ _ _ _ | exact Kd.N_nil _ _ _ _ _ | exact Kd.V_nil _ _ _ _ _ | exact Kd.Q_nil _ _ _ _ _ | exact Kd.S_nil _ _ _ _ _, by repeat (first | (with_reducible first | exact HB.out | apply below_alloc | apply pw_below_drewN | apply below_drew1) | exact HB.out)⟩
          ·rw [if_neg c14] at H
           have c14b0 : decide ((rd l0 (ji11)) < 128) = false := decide_eq_false c14
           clear c14
           by_cases c15 : (wrap64 (rd l0 (ji11))) > 250
           ·rw [if_pos c15] at H
            have c15b0 : decide (250 < (wrap64 (rd l0 (ji11)))) = true := decide_eq_true c15
            clear c15
            simp only [Option.some.injEq, Prod.mk.injEq] at H
            obtain ⟨rfl, rfl, rfl, rfl⟩ := H
            have p230 : 0 ≤ ((ji5) : Int) := of_decide_eq_true zq4
            have q230 : (ji5) < (l0.length : Int) := of_decide_eq_true zq4
            obtain ⟨ad230, e230, hx230_0⟩ := Kd.at_int HR0.out (ji5) p230 q230
            cases e230
            replace p230 := eq_true p230
            replace q230 := eq_true q230
            have p231 : 0 ≤ ((ji11) : Int) := of_decide_eq_true zq4
            have q231 : (ji11) < (l0.length : Int) := of_decide_eq_true zq4
            obtain ⟨ad231, e231, hx231_0⟩ := Kd.at_int HR0.out (ji11) p231 q231
            obtain rfl : ad230 = ad231 := (by injection e231)
            replace p231 := eq_true p231
            replace q231 := eq_true q231
            have p232 : 0 ≤ ((ji11) : Int) := of_decide_eq_true zq4
            have q232 : (ji11) < (l0.length : Int) := of_decide_eq_true zq4
            obtain ⟨ad232, e232, hx232_0⟩ := Kd.at_int HR0.out (ji11) p232 q232
            obtain rfl : ad230 = ad232 := (by injection e232)
            replace p232 := eq_true p232
            replace q232 := eq_true q232
            go_enter Try.func112, Try.ntmps112
            go_wp2
            refine bodyPost_ret (results_list (rs := [.tmp 4, .tmp 5, .tmp 6, .tmp 7]) rfl zq48 (.tmp (.tmp (.tmp (.tmp .nil))))) rfl ?_
            exact ⟨_, by first | rfl | (simp [errW_none, errW_some] <;> rfl) | (simp only [← hji5, ← hji11]; first | rfl | (simp [errW_none, errW_some] <;> rfl)) | (simp [*, errW_none, errW_some] <;> rfl), by first | exact Kd.R_nil _ _ _ _ _ | exact Kd.N_nil _ _ _ _ _ | exact Kd.V_nil _ _ _ _ _ | exact Kd.Q_nil _ _ _ _ _ | exact Kd.S_nil _ _ _ _ _, by repeat (first | (with_reducible first | exact HB.out | apply below_alloc | apply pw_below_drewN | apply below_drew1) | exact HB.out)⟩
           ·rw [if_neg c15] at H
            have c15b0 : decide (250 < (wrap64 (rd l0 (ji11)))) = false := decide_eq_false c15
            clear c15
            by_cases c16 : (wrap64 (rd l0 (ji11))) > (wrap64 ((l0.length : Int) - (wrap64 ((ji11) + 1))))
            ·rw [if_pos c16] at H
             have c16b0 : decide ((wrap64 ((l0.length : Int) - (wrap64 ((ji11) + 1)))) < (wrap64 (rd l0 (ji11)))) = true := decide_eq_true c16
             clear c16
             simp only [Option.some.injEq, Prod.mk.injEq] at H
             obtain ⟨rfl, rfl, rfl, rfl⟩ := H
             have p230 : 0 ≤ ((ji5) : Int) := of_decide_eq_true zq4
             have q230 : (ji5) < (l0.length : Int) := of_decide_eq_true zq4
             obtain ⟨ad230, e230, hx230_0⟩ := Kd.at_int HR0.out (ji5) p230 q230
             cases e230
             replace p230 := eq_true p230
             replace q230 := eq_true q230
             have p231 : 0 ≤ ((ji11) : Int) := of_decide_eq_true zq4
             have q231 : (ji11) < (l0.length : Int) := of_decide_eq_true zq4
             obtain ⟨ad231, e231, hx231_0⟩ := Kd.at_int HR0.out (ji11) p231 q231
             obtain rfl : ad230 = ad231 := (by injection e231)
             replace p231 := eq_true p231
             replace q231 := eq_true q231
             have p232 : 0 ≤ ((ji11) : Int) := of_decide_eq_true zq4
             have q232 : (ji11) < (l0.length : Int) := of_decide_eq_true zq4
             obtain ⟨ad232, e232, hx232_0⟩ := Kd.at_int HR0.out (ji11) p232 q232
             obtain rfl : ad230 = ad232 := (by injection e232)
             replace p232 := eq_true p232
             replace q232 := eq_true q232
             go_enter Try.func112, Try.ntmps112
             go_wp2
             refine bodyPost_ret (results_list (rs := [.tmp 4, .tmp 5, .tmp 6, .tmp 7]) rfl zq48 (.tmp (.tmp (.tmp (.tmp .nil))))) rfl ?_
             exact ⟨_, by first | rfl | (simp [errW_none, errW_some] <;> rfl) | (simp only [← hji5, ← hji11]; first | rfl | (simp [errW_none, errW_some] <;> rfl)) | (simp [*, errW_none, errW_some] <;> rfl), by first | exact Kd.R_nil _ _ _ _ _ | exact Kd.N_nil _ _ _ _ _ | exact Kd.V_nil _ _ _ _ _ | exact Kd.Q_nil _ _ _ _ _ | exact Kd.S_nil _ _ _ _ _, by repeat (first | (with_reducible first | exact HB.out | apply below_alloc | apply pw_below_drewN | apply below_drew1) | exact HB.out)⟩
            ·rw [if_neg c16] at H
             have c16b0 : decide ((wrap64 ((l0.length : Int) - (wrap64 ((ji11) + 1)))) < (wrap64 (rd l0 (ji11)))) = false := decide_eq_false c16
             clear c16
             by_cases c17 : 0 ≤ a1
             ·rw [if_pos c17] at H
              have c17b0 : decide (0 ≤ a1) = true := decide_eq_true c17
              clear c17
              by_cases c18 : a1 < (l0.length : Int)
              ·rw [if_pos c18] at H
               have c18b0 : decide (a1 < (l0.length : Int)) = true := decide_eq_true c18
               clear c18
               obtain ⟨ji19, hji19⟩ : ∃ j_ : Int, (wrap64 ((ji11) + 1)) = j_ := ⟨_, rfl⟩
               replace H : (if 0 ≤ (ji19) then (if (ji19) ≤ (wrap64 ((ji19) + (wrap64 (rd l0 (ji11))))) then (if (wrap64 ((ji19) + (wrap64 (rd l0 (ji11))))) ≤ (l0.length : Int) then ((impl_copyBytes.f ((l0.take ((wrap64 ((ji19) + (wrap64 (rd l0 (ji11))))) : Int).toNat).drop ((ji19) : Int).toNat)).bind fun t235 => (some (wrap64 (rd l0 a1), t235, wrap64 ((ji19) + (wrap64 (rd l0 (ji11)))), true))) else (none)) else (none)) else (none)) = some (r1, r2, r3, r4) := by first | (rw [hji19] at H; exact H) | (simp only [hji19] at H ⊢; exact H)
               (try rw [hji19] at c16b0)
               have hji19w : (IntKind.i64.wrap ((ji11) + 1)) = ji19 := (i64_w _).trans hji19
               by_cases c20 : 0 ≤ (ji19)
               ·rw [if_pos c20] at H
                have c20b0 := eq_true c20
                have c20b1 : decide (0 ≤ (ji19)) = true := decide_eq_true c20
                clear c20
                by_cases c21 : (ji19) ≤ (wrap64 ((ji19) + (wrap64 (rd l0 (ji11)))))
                ·rw [if_pos c21] at H
                 have c21b0 := eq_true c21
                 have c21b1 : decide ((ji19) ≤ (wrap64 ((ji19) + (wrap64 (rd l0 (ji11)))))) = true := decide_eq_true c21
                 by_cases c22 : (wrap64 ((ji19) + (wrap64 (rd l0 (ji11))))) ≤ (l0.length : Int)
                 ·rw [if_pos c22] at H
                  have c22b0 := eq_true c22
                  have c22b1 : decide ((wrap64 ((ji19) + (wrap64 (rd l0 (ji11))))) ≤ (l0.length : Int)) = true := decide_eq_true c22
                  obtain ⟨t235, A23, H⟩ := zB H
                  try dsimp only at H
                  simp only [Option.some.injEq, Prod.mk.injEq] at H
                  obtain ⟨rfl, rfl, rfl, rfl⟩ := H
                  have p230 : 0 ≤ ((ji5) : Int) := of_decide_eq_true zq4
                  have q230 : (ji5) < (l0.length : Int) := of_decide_eq_true zq4
                  obtain ⟨ad230, e230, hx230_0⟩ := Kd.at_int HR0.out (ji5) p230 q230
                  cases e230
                  replace p230 := eq_true p230
                  replace q230 := eq_true q230
                  have p231 : 0 ≤ ((ji11) : Int) := of_decide_eq_true zq4
                  have q231 : (ji11) < (l0.length : Int) := of_decide_eq_true zq4
                  obtain ⟨ad231, e231, hx231_0⟩ := Kd.at_int HR0.out (ji11) p231 q231
                  obtain rfl : ad230 = ad231 := (by injection e231)
                  replace p231 := eq_true p231
                  replace q231 := eq_true q231
                  have p232 : 0 ≤ ((ji11) : Int) := of_decide_eq_true zq4
                  have q232 : (ji11) < (l0.length : Int) := of_decide_eq_true zq4
                  obtain ⟨ad232, e232, hx232_0⟩ := Kd.at_int HR0.out (ji11) p232 q232
                  obtain rfl : ad230 = ad232 := (by injection e232)
                  replace p232 := eq_true p232
                  replace q232 := eq_true q232
                  go_enter Try.func112, Try.ntmps112
                  try go_wp2
                  have n0_ := zA (below_drew1 HB.out)
                  clear HB
                  have HB := n0_
                  clear n0_
                  have p233 : 0 ≤ (a1 : Int) := of_decide_eq_true zq4
                  have q233 : a1 < (l0.length : Int) := of_decide_eq_true zq4
                  obtain ⟨ad233, e233, hx233_0⟩ := Kd.at_int HR0.out a1 p233 q233
                  have hw233_0 := hx233_0
                  obtain rfl : ad230 = ad233 := (by injection e233)
                  replace hx233_0 := (HB.out.cell (World.block_lt_of_cell? w _ hx233_0)).trans hx233_0
                  replace p233 := eq_true p233
                  replace q233 := eq_true q233
                  obtain ⟨i025, hi025, _, hsz25, _⟩ := info_parts info5
                  obtain ⟨A25, hcut25, hA25, hC25⟩ := print_mid_of (P := Try.prog) (Value.int .u8) 0 22 5 .i64 .i64 Try.underlying22 hi025 hsz25 (some ad230) c0 l0 (ji19) (wrap64 ((ji19) + (wrap64 (rd l0 (ji11))))) (of_decide_eq_true zq4) zq120 (of_decide_eq_true zq4) HC0.out
                  have HR234 := zA (Kd.C_of_reads (h1 := fun _ => rfl) (hA25 _ (Kd.reads_of_C HR0.out)))
                  have HC234 := zA hC25
                  clear hA25 hC25 hi025 hsz25
                  refine start_ (n := 19) (S := fun w' => w'.cell? (ad230.add (a1).toNat) = some (.int .u8 (rd l0 a1))) (ds := []) #[false, false, false, false, false, false, false, false, false, false, false, false, false, false, false, false, false, false, false] (by kernel_rfl) rfl rfl (((HB.out.cell (World.block_lt_of_cell? w _ hw233_0)).trans hw233_0)) (fun hHeld => ?_); refine with_tabW impl_GetTlv.tab11 impl_GetTlv.bits11 (fun HT_ HW_ => ?_)
                  generalize w.drew = w24 at HB HR234 hx233_0 hHeld ⊢
                  refine pure_ (i := 0) (N := some 61) (v := ?_) (a' := ?_) #[true, false, false, false, false, false, false, false, false, false, false, false, false, false, false, false, false, false, false] rfl rfl (any_of HT_.out (by kernel_rfl)) (fun _ _ _ h => h) (Or.inl ⟨by rfl, ?_⟩) ?_ ?_
                  rotate_left
                  ·intro w'
                   go_simp
                   with_reducible rfl
                  rotate_left
                  ·simp only [Act.put, List.setIfInBounds_toArray, List.set_cons_zero, List.set_cons_succ, i64_w, i32_w]
                   rfl
                  refine pure_ (i := 1) (N := some 62) (v := ?_) (a' := ?_) #[true, true, false, false, false, false, false, false, false, false, false, false, false, false, false, false, false, false, false] rfl rfl (any_of HT_.out (by kernel_rfl)) (fun _ _ _ h => h) (Or.inl ⟨by rfl, ?_⟩) ?_ ?_
                  rotate_left
                  ·intro w'
                   go_simp
                   with_reducible rfl
                  rotate_left
                  ·simp only [Act.put, List.setIfInBounds_toArray, List.set_cons_zero, List.set_cons_succ, i64_w, i32_w]
                   rfl
                  refine pure_ (i := 2) (N := some 63) (v := ?_) (a' := ?_) #[true, true, true, false, false, false, false, false, false, false, false, false, false, false, false, false, false, false, false] rfl rfl (any_of HT_.out (by kernel_rfl)) (fun _ _ _ h => h) (Or.inl ⟨by rfl, ?_⟩) ?_ ?_
                  rotate_left
                  ·intro w'
                   go_simp
                   with_reducible rfl
                  rotate_left
                  ·simp only [Act.put, List.setIfInBounds_toArray, List.set_cons_zero, List.set_cons_succ, i64_w, i32_w]
                   rfl
                  refine pure_ (i := 5) (N := some 66) (v := ?_) (a' := ?_) #[true, true, true, false, false, true, false, false, false, false, false, false, false, false, false, false, false, false, false] rfl rfl (any_of HT_.out (by kernel_rfl)) (fun _ _ _ h => h) (Or.inl ⟨by rfl, ?_⟩) ?_ ?_
                  rotate_left
                  ·intro w'
                   go_simp
                   with_reducible rfl
                  rotate_left
                  ·simp only [Act.put, List.setIfInBounds_toArray, List.set_cons_zero, List.set_cons_succ, i64_w, i32_w]
                   rfl
                  refine pure_ (i := 6) (N := some 67) (v := ?_) (a' := ?_) #[true, true, true, false, false, true, true, false, false, false, false, false, false, false, false, false, false, false, false] rfl rfl (any_of HT_.out (by kernel_rfl)) (fun _ _ _ h => h) (Or.inl ⟨by rfl, ?_⟩) ?_ ?_
                  rotate_left
                  ·intro w'
                   go_simp
                   with_reducible rfl
                  rotate_left
                  ·simp only [Act.put, List.setIfInBounds_toArray, List.set_cons_zero, List.set_cons_succ, i64_w, i32_w]
                   rfl
                  refine pure_ (i := 7) (N := some 68) (v := ?_) (a' := ?_) #[true, true, true, false, false, true, true, true, false, false, false, false, false, false, false, false, false, false, false] rfl rfl (any_of HT_.out (by kernel_rfl)) (fun _ _ _ h => h) (Or.inl ⟨by rfl, ?_⟩) ?_ ?_
                  rotate_left
                  ·intro w'
                   go_simp
                   with_reducible rfl
                  rotate_left
                  ·simp only [Act.put, List.setIfInBounds_toArray, List.set_cons_zero, List.set_cons_succ, i64_w, i32_w]
                   rfl
                  refine pure_ (i := 8) (N := some 69) (v := ?_) (a' := ?_) #[true, true, true, false, false, true, true, true, true, false, false, false, false, false, false, false, false, false, false] rfl rfl (any_of HT_.out (by kernel_rfl)) (fun _ _ _ h => h) (Or.inl ⟨by rfl, ?_⟩) ?_ ?_
                  rotate_left
                  ·intro w'
                   go_simp
                   with_reducible rfl
                  rotate_left
                  ·simp only [Act.put, List.setIfInBounds_toArray, List.set_cons_zero, List.set_cons_succ, i64_w, i32_w]
                   rfl
                  refine pure_ (i := 9) (N := some 70) (v := ?_) (a' := ?_) #[true, true, true, false, false, true, true, true, true, true, false, false, false, false, false, false, false, false, false] rfl rfl (any_of HT_.out (by kernel_rfl)) (fun _ _ _ h => h) (Or.inl ⟨by rfl, ?_⟩) ?_ ?_
                  rotate_left
                  ·intro w'
                   go_simp
                   with_reducible rfl
                  rotate_left
                  ·simp only [Act.put, List.setIfInBounds_toArray, List.set_cons_zero, List.set_cons_succ, i64_w, i32_w]
                   rfl
                  refine pure_ (i := 10) (N := some 71) (v := ?_) (a' := ?_) #[true, true, true, false, false, true, true, true, true, true, true, false, false, false, false, false, false, false, false] rfl rfl (any_of HT_.out (by kernel_rfl)) (fun _ _ _ h => h) (Or.inl ⟨by rfl, ?_⟩) ?_ ?_
                  rotate_left
                  ·intro w'
                   go_simp
                   with_reducible rfl
                  rotate_left
                  ·simp only [Act.put, List.setIfInBounds_toArray, List.set_cons_zero, List.set_cons_succ, i64_w, i32_w]
                   rfl
                  refine pure_ (i := 12) (N := some 73) (v := ?_) (a' := ?_) #[true, true, true, false, false, true, true, true, true, true, true, false, true, false, false, false, false, false, false] rfl rfl (any_of HT_.out (by kernel_rfl)) (fun _ _ _ h => h) (Or.inl ⟨by rfl, ?_⟩) ?_ ?_
                  rotate_left
                  ·intro w'
                   go_simp
                   with_reducible rfl
                  rotate_left
                  ·simp only [Act.put, List.setIfInBounds_toArray, List.set_cons_zero, List.set_cons_succ, i64_w, i32_w]
                   rfl
                  refine pure_ (i := 13) (N := some 74) (v := ?_) (a' := ?_) #[true, true, true, false, false, true, true, true, true, true, true, false, true, true, false, false, false, false, false] rfl rfl (any_of HT_.out (by kernel_rfl)) (fun _ _ _ h => h) (Or.inl ⟨by rfl, ?_⟩) ?_ ?_
                  rotate_left
                  ·intro w'
                   go_simp
                   with_reducible rfl
                  rotate_left
                  ·simp only [Act.put, List.setIfInBounds_toArray, List.set_cons_zero, List.set_cons_succ, i64_w, i32_w]
                   rfl
                  refine pure_ (i := 14) (N := some 75) (v := ?_) (a' := ?_) #[true, true, true, false, false, true, true, true, true, true, true, false, true, true, true, false, false, false, false] rfl rfl (any_of HT_.out (by kernel_rfl)) (fun _ _ _ h => h) (Or.inl ⟨by rfl, ?_⟩) ?_ ?_
                  rotate_left
                  ·intro w'
                   go_simp
                   with_reducible rfl
                  rotate_left
                  ·simp only [Act.put, List.setIfInBounds_toArray, List.set_cons_zero, List.set_cons_succ, i64_w, i32_w]
                   rfl
                  refine take_ (i := 3) (N := some 64) (v := ?_) (a' := ?_) #[true, true, true, true, false, true, true, true, true, true, true, false, true, true, true, false, false, false, false] rfl rfl (take_ofW HT_.out HW_.out (by kernel_rfl)) (fun _ _ _ h => h) (Or.inl ⟨by rfl, ?_⟩) hHeld ?_ ?_
                  rotate_left
                  ·intro w' s0
                   go_simp
                   with_reducible rfl
                  rotate_left
                  ·simp only [Act.put, List.setIfInBounds_toArray, List.set_cons_zero, List.set_cons_succ, i64_w, i32_w]
                   rfl
                  refine pure_ (i := 4) (N := some 65) (v := ?_) (a' := ?_) #[true, true, true, true, true, true, true, true, true, true, true, false, true, true, true, false, false, false, false] rfl rfl (any_of HT_.out (by kernel_rfl)) (fun _ _ _ h => h) (Or.inl ⟨by rfl, ?_⟩) ?_ ?_
                  rotate_left
                  ·intro w'
                   go_simp
                   with_reducible rfl
                  rotate_left
                  ·simp only [Act.put, List.setIfInBounds_toArray, List.set_cons_zero, List.set_cons_succ, i64_w, i32_w]
                   rfl
                  refine one_ (i := 11) (N := some 72) #[true, true, true, true, true, true, true, true, true, true, true, true, true, true, true, false, false, false, false] rfl rfl (one_of HT_.out (by kernel_rfl)) zq55 (fun K hK => ?_)
                  refine goes_ Try.func155 (by kernel_rfl) rfl #[.slice A25 ((l0.take ((wrap64 ((ji19) + (wrap64 (rd l0 (ji11))))) : Int).toNat).drop ((ji19) : Int).toNat).length (c0 - (ji19).toNat)] zq121 rfl rfl (by (try simp only [List.map_toArray, List.map_cons, List.map_nil]); first | done | (rw [show ((l0.take ((wrap64 ((ji19) + (wrap64 (rd l0 (ji11))))) : Int).toNat).drop ((ji19) : Int).toNat).length = ((wrap64 ((ji19) + (wrap64 (rd l0 (ji11))))).toNat - (ji19).toNat) from (by rw [List.length_drop, List.length_take]; have h_ : ((wrap64 ((ji19) + (wrap64 (rd l0 (ji11))))) : Int) ≤ (l0.length : Int) := of_decide_eq_true zq4; omega)] <;> rfl) | (simp only [hji11, hji19]; rfl) | rfl | (simp only [List.length_drop, List.length_take]; rfl)) ?_
                  with_reducible refine (impl_copyBytes.calls _ _ ((l0.take ((wrap64 ((ji19) + (wrap64 (rd l0 (ji11))))) : Int).toNat).drop ((ji19) : Int).toNat) t235 _ ?side1 ?side2 A23.out).mono ?_
                  (case side1 => repeat (first | exact (Kd.C_below HR234.out HB.out) | (with_reducible refine Kd.C_alloc ?_ _) | (with_reducible refine Kd.C_drewN ?_ _) | (with_reducible refine Kd.C_drew ?_)))
                  (case side2 => exact HC234.out)
                  rintro e w26 ⟨v236, rfl, ho0, hb⟩
                  refine ⟨_, rfl, ?_⟩
                  have n0_ := zA (Kd.R_lower ho0 (below_size zq0))
                  have n1_ := zA (below_step zq0 hb)
                  clear HB
                  have HO237 := n0_
                  have HB := n1_
                  clear n0_ n1_
                  (try clear hb)
                  (try clear hb2)
                  (try clear hk)
                  (try clear hi)
                  (try clear ho0)
                  refine hK.out _ _ (((HB.out.cell (World.block_lt_of_cell? w _ hw233_0)).trans hw233_0)) (fun hHeld => ?_)
                  clear hK K
                  refine norm_ (a' := ?_) ?_ ?_
                  rotate_left
                  ·show Act.put _ (some 72) _ = _
                   simp only [Act.put, List.setIfInBounds_toArray, List.set_cons_zero, List.set_cons_succ, i64_w, i32_w]
                   rfl
                  refine pure_ (i := 15) (N := some 4) (v := ?_) (a' := ?_) #[true, true, true, true, true, true, true, true, true, true, true, true, true, true, true, true, false, false, false] rfl rfl (any_of HT_.out (by kernel_rfl)) (fun _ _ _ h => h) (Or.inl ⟨by rfl, ?_⟩) ?_ ?_
                  rotate_left
                  ·intro w'
                   go_simp
                   with_reducible rfl
                  rotate_left
                  ·simp only [Act.put, List.setIfInBounds_toArray, List.set_cons_zero, List.set_cons_succ, i64_w, i32_w]
                   rfl
                  refine pure_ (i := 16) (N := some 5) (v := ?_) (a' := ?_) #[true, true, true, true, true, true, true, true, true, true, true, true, true, true, true, true, true, false, false] rfl rfl (any_of HT_.out (by kernel_rfl)) (fun _ _ _ h => h) (Or.inl ⟨by rfl, ?_⟩) ?_ ?_
                  rotate_left
                  ·intro w'
                   go_simp
                   with_reducible rfl
                  rotate_left
                  ·simp only [Act.put, List.setIfInBounds_toArray, List.set_cons_zero, List.set_cons_succ, i64_w, i32_w]
                   rfl
                  refine pure_ (i := 17) (N := some 6) (v := ?_) (a' := ?_) #[true, true, true, true, true, true, true, true, true, true, true, true, true, true, true, true, true, true, false] rfl rfl (any_of HT_.out (by kernel_rfl)) (fun _ _ _ h => h) (Or.inl ⟨by rfl, ?_⟩) ?_ ?_
                  rotate_left
                  ·intro w'
                   go_simp
                   with_reducible rfl
                  rotate_left
                  ·simp only [Act.put, List.setIfInBounds_toArray, List.set_cons_zero, List.set_cons_succ, i64_w, i32_w]
                   rfl
                  refine pure_ (i := 18) (N := some 7) (v := ?_) (a' := ?_) #[true, true, true, true, true, true, true, true, true, true, true, true, true, true, true, true, true, true, true] rfl rfl (any_of HT_.out (by kernel_rfl)) (fun _ _ _ h => h) (Or.inl ⟨by rfl, ?_⟩) ?_ ?_
                  rotate_left
                  ·intro w'
                   go_simp
                   with_reducible rfl
                  rotate_left
                  ·simp only [Act.put, List.setIfInBounds_toArray, List.set_cons_zero, List.set_cons_succ, i64_w, i32_w]
                   rfl
                  refine done_ (done_of HT_.out (by kernel_rfl)) ?_
                  try go_wp2
                  refine bodyPost_ret (results_list (rs := [.tmp 4, .tmp 5, .tmp 6, .tmp 7]) rfl zq48 (.tmp (.tmp (.tmp (.tmp .nil))))) rfl ?_
                  exact ⟨_, by first | rfl | (simp [errW_none, errW_some] <;> rfl) | (simp only [← hji5, ← hji11, ← hji19]; first | rfl | (simp [errW_none, errW_some] <;> rfl)) | (simp [*, errW_none, errW_some] <;> rfl), by (with_reducible repeat (first | apply Kd.R_alloc | apply Kd.R_drewN | apply Kd.R_drew)); exact HO237.out, by repeat (first | (with_reducible first | exact HB.out | apply below_alloc | apply pw_below_drewN | apply below_drew1) | exact HB.out)⟩
                 ·rw [if_neg c22] at H
                  exact absurd H zq48
                ·rw [if_neg c21] at H
                 exact absurd H zq48
               ·rw [if_neg c20] at H
                exact absurd H zq48
              ·rw [if_neg c18] at H
               exact absurd H zq48
             ·rw [if_neg c17] at H
              exact absurd H zq48
         ·rw [if_neg c13] at H
          exact absurd H zq48
        ·rw [if_neg c12] at H
         exact absurd H zq48
      ·rw [if_neg c9] at H
       have c9b0 : ((wrap64 (rd l0 (ji5))) == 129) = false := beq_eq_false_iff_ne.mpr c9
       have c9b1 : ((wrap64 (rd l0 (ji5))) != 129) = true := bne_iff_ne.mpr c9
       simp only [Option.some.injEq, Prod.mk.injEq] at H
       obtain ⟨rfl, rfl, rfl, rfl⟩ := H
       have p230 : 0 ≤ ((ji5) : Int) := of_decide_eq_true zq4
       have q230 : (ji5) < (l0.length : Int) := of_decide_eq_true zq4
       obtain ⟨ad230, e230, hx230_0⟩ := Kd.at_int HR0.out (ji5) p230 q230
       cases e230
       replace p230 := eq_true p230
       replace q230 := eq_true q230
       go_enter Try.func112, Try.ntmps112
       go_wp2
       refine bodyPost_ret (results_list (rs := [.tmp 4, .tmp 5, .tmp 6, .tmp 7]) rfl zq48 (.tmp (.tmp (.tmp (.tmp .nil))))) rfl ?_
       exact ⟨_, by first | rfl | (simp [errW_none, errW_some] <;> rfl) | (simp only [← hji5]; first | rfl | (simp [errW_none, errW_some] <;> rfl)) | (simp [*, errW_none, errW_some] <;> rfl), by first | exact Kd.R_nil _ _ _ _ _ | exact Kd.N_nil _ _ _ _ _ | exact Kd.V_nil _ _ _ _ _ | exact Kd.Q_nil _ _ _ _ _ | exact Kd.S_nil _ _ _ _ _, by repeat (first | (with_reducible first | exact HB.out | apply below_alloc | apply pw_below_drewN | apply below_drew1) | exact HB.out)⟩
     ·rw [if_neg c8] at H
      have c8b0 : decide (128 ≤ (wrap64 (rd l0 (ji5)))) = false := decide_eq_false c8
      clear c8
      by_cases c27 : (wrap64 (rd l0 (ji5))) > 250
      ·rw [if_pos c27] at H
       have c27b0 : decide (250 < (wrap64 (rd l0 (ji5)))) = true := decide_eq_true c27
       clear c27
       simp only [Option.some.injEq, Prod.mk.injEq] at H
       obtain ⟨rfl, rfl, rfl, rfl⟩ := H
       have p230 : 0 ≤ ((ji5) : Int) := of_decide_eq_true zq4
       have q230 : (ji5) < (l0.length : Int) := of_decide_eq_true zq4
       obtain ⟨ad230, e230, hx230_0⟩ := Kd.at_int HR0.out (ji5) p230 q230
       cases e230
       replace p230 := eq_true p230
       replace q230 := eq_true q230
       go_enter Try.func112, Try.ntmps112
       go_wp2
       refine bodyPost_ret (results_list (rs := [.tmp 4, .tmp 5, .tmp 6, .tmp 7]) rfl zq48 (.tmp (.tmp (.tmp (.tmp .nil))))) rfl ?_
       exact ⟨_, by first | rfl | (simp [errW_none, errW_some] <;> rfl) | (simp only [← hji5]; first | rfl | (simp [errW_none, errW_some] <;> rfl)) | (simp [*, errW_none, errW_some] <;> rfl), by first | exact Kd.R_nil _ _ _ _ _ | exact Kd.N_nil _ _ _ _ _ | exact Kd.V_nil _ _ _ _ _ | exact Kd.Q_nil _ _ _ _ _ | exact Kd.S_nil _ _ _ _ _, by repeat (first | (with_reducible first | exact HB.out | apply below_alloc | apply pw_below_drewN | apply below_drew1) | exact HB.out)⟩
      ·rw [if_neg c27] at H
       have c27b0 : decide (250 < (wrap64 (rd l0 (ji5)))) = false := decide_eq_false c27
       clear c27
       by_cases c28 : (wrap64 (rd l0 (ji5))) > (wrap64 ((l0.length : Int) - (wrap64 (a1 + 2))))
       ·rw [if_pos c28] at H
        have c28b0 : decide ((wrap64 ((l0.length : Int) - (wrap64 (a1 + 2)))) < (wrap64 (rd l0 (ji5)))) = true := decide_eq_true c28
        clear c28
        simp only [Option.some.injEq, Prod.mk.injEq] at H
        obtain ⟨rfl, rfl, rfl, rfl⟩ := H
        have p230 : 0 ≤ ((ji5) : Int) := of_decide_eq_true zq4
        have q230 : (ji5) < (l0.length : Int) := of_decide_eq_true zq4
        obtain ⟨ad230, e230, hx230_0⟩ := Kd.at_int HR0.out (ji5) p230 q230
        cases e230
        replace p230 := eq_true p230
        replace q230 := eq_true q230
        go_enter Try.func112, Try.ntmps112
        go_wp2
        refine bodyPost_ret (results_list (rs := [.tmp 4, .tmp 5, .tmp 6, .tmp 7]) rfl zq48 (.tmp (.tmp (.tmp (.tmp .nil))))) rfl ?_
        exact ⟨_, by first | rfl | (simp [errW_none, errW_some] <;> rfl) | (simp only [← hji5]; first | rfl | (simp [errW_none, errW_some] <;> rfl)) | (simp [*, errW_none, errW_some] <;> rfl), by first | exact Kd.R_nil _ _ _ _ _ | exact Kd.N_nil _ _ _ _ _ | exact Kd.V_nil _ _ _ _ _ | exact Kd.Q_nil _ _ _ _ _ | exact Kd.S_nil _ _ _ _ _, by repeat (first | (with_reducible first | exact HB.out | apply below_alloc | apply pw_below_drewN | apply below_drew1) | exact HB.out)⟩
       ·rw [if_neg c28] at H
        have c28b0 : decide ((wrap64 ((l0.length : Int) - (wrap64 (a1 + 2)))) < (wrap64 (rd l0 (ji5)))) = false := decide_eq_false c28
        clear c28
        by_cases c29 : 0 ≤ a1
        ·rw [if_pos c29] at H
         have c29b0 : decide (0 ≤ a1) = true := decide_eq_true c29
         clear c29
         by_cases c30 : a1 < (l0.length : Int)
         ·rw [if_pos c30] at H
          have c30b0 : decide (a1 < (l0.length : Int)) = true := decide_eq_true c30
          clear c30
          obtain ⟨ji31, hji31⟩ : ∃ j_ : Int, (wrap64 (a1 + 2)) = j_ := ⟨_, rfl⟩
          replace H : (if 0 ≤ (ji31) then (if (ji31) ≤ (wrap64 ((ji31) + (wrap64 (rd l0 (ji5))))) then (if (wrap64 ((ji31) + (wrap64 (rd l0 (ji5))))) ≤ (l0.length : Int) then ((impl_copyBytes.f ((l0.take ((wrap64 ((ji31) + (wrap64 (rd l0 (ji5))))) : Int).toNat).drop ((ji31) : Int).toNat)).bind fun t240 => (some (wrap64 (rd l0 a1), t240, wrap64 ((ji31) + (wrap64 (rd l0 (ji5)))), true))) else (none)) else (none)) else (none)) = some (r1, r2, r3, r4) := by first | (rw [hji31] at H; exact H) | (simp only [hji31] at H ⊢; exact H)
          (try rw [hji31] at c28b0)
          have hji31w : (IntKind.i64.wrap (a1 + 2)) = ji31 := (i64_w _).trans hji31
          by_cases c32 : 0 ≤ (ji31)
          ·rw [if_pos c32] at H
           have c32b0 := eq_true c32
           have c32b1 : decide (0 ≤ (ji31)) = true := decide_eq_true c32
           clear c32
           by_cases c33 : (ji31) ≤ (wrap64 ((ji31) + (wrap64 (rd l0 (ji5)))))
           ·rw [if_pos c33] at H
            have c33b0 := eq_true c33
            have c33b1 : decide ((ji31) ≤ (wrap64 ((ji31) + (wrap64 (rd l0 (ji5)))))) = true := decide_eq_true c33
            by_cases c34 : (wrap64 ((ji31) + (wrap64 (rd l0 (ji5))))) ≤ (l0.length : Int)
            ·rw [if_pos c34] at H
             have c34b0 := eq_true c34
             have c34b1 : decide ((wrap64 ((ji31) + (wrap64 (rd l0 (ji5))))) ≤ (l0.length : Int)) = true := decide_eq_true c34
             obtain ⟨t240, A35, H⟩ := zB H
             try dsimp only at H
             simp only [Option.some.injEq, Prod.mk.injEq] at H
             obtain ⟨rfl, rfl, rfl, rfl⟩ := H
             have p230 : 0 ≤ ((ji5) : Int) := of_decide_eq_true zq4
             have q230 : (ji5) < (l0.length : Int) := of_decide_eq_true zq4
             obtain ⟨ad230, e230, hx230_0⟩ := Kd.at_int HR0.out (ji5) p230 q230
             cases e230
             replace p230 := eq_true p230
             replace q230 := eq_true q230
             go_enter Try.func112, Try.ntmps112
             try go_wp2
             have n0_ := zA (below_drew1 HB.out)
             clear HB
             have HB := n0_
             clear n0_
             have p238 : 0 ≤ (a1 : Int) := of_decide_eq_true zq4
             have q238 : a1 < (l0.length : Int) := of_decide_eq_true zq4
             obtain ⟨ad238, e238, hx238_0⟩ := Kd.at_int HR0.out a1 p238 q238
             have hw238_0 := hx238_0
             obtain rfl : ad230 = ad238 := (by injection e238)
             replace hx238_0 := (HB.out.cell (World.block_lt_of_cell? w _ hx238_0)).trans hx238_0
             replace p238 := eq_true p238
             replace q238 := eq_true q238
             obtain ⟨i037, hi037, _, hsz37, _⟩ := info_parts info5
             obtain ⟨A37, hcut37, hA37, hC37⟩ := print_mid_of (P := Try.prog) (Value.int .u8) 0 22 5 .i64 .i64 Try.underlying22 hi037 hsz37 (some ad230) c0 l0 (ji31) (wrap64 ((ji31) + (wrap64 (rd l0 (ji5))))) (of_decide_eq_true zq4) zq120 (of_decide_eq_true zq4) HC0.out
             have HR239 := zA (Kd.C_of_reads (h1 := fun _ => rfl) (hA37 _ (Kd.reads_of_C HR0.out)))
             have HC239 := zA hC37
             clear hA37 hC37 hi037 hsz37
             refine start_ (n := 19) (S := fun w' => w'.cell? (ad230.add (a1).toNat) = some (.int .u8 (rd l0 a1))) (ds := []) #[false, false, false, false, false, false, false, false, false, false, false, false, false, false, false, false, false, false, false] (by kernel_rfl) rfl rfl (((HB.out.cell (World.block_lt_of_cell? w _ hw238_0)).trans hw238_0)) (fun hHeld => ?_); refine with_tabW impl_GetTlv.tab11 impl_GetTlv.bits11 (fun HT_ HW_ => ?_)
             generalize w.drew = w36 at HB HR239 hx238_0 hHeld ⊢
             refine pure_ (i := 0) (N := some 61) (v := ?_) (a' := ?_) #[true, false, false, false, false, false, false, false, false, false, false, false, false, false, false, false, false, false, false] rfl rfl (any_of HT_.out (by kernel_rfl)) (fun _ _ _ h => h) (Or.inl ⟨by rfl, ?_⟩) ?_ ?_
             rotate_left
             ·intro w'
              go_simp
              with_reducible rfl
             rotate_left
             ·simp only [Act.put, List.setIfInBounds_toArray, List.set_cons_zero, List.set_cons_succ, i64_w, i32_w]
              rfl
             refine pure_ (i := 1) (N := some 62) (v := ?_) (a' := ?_) #[true, true, false, false, false, false, false, false, false, false, false, false, false, false, false, false, false, false, false] rfl rfl (any_of HT_.out (by kernel_rfl)) (fun _ _ _ h => h) (Or.inl ⟨by rfl, ?_⟩) ?_ ?_
             rotate_left
             ·intro w'
              go_simp
              with_reducible rfl
             rotate_left
             ·simp only [Act.put, List.setIfInBounds_toArray, List.set_cons_zero, List.set_cons_succ, i64_w, i32_w]
              rfl
             refine pure_ (i := 2) (N := some 63) (v := ?_) (a' := ?_) #[true, true, true, false, false, false, false, false, false, false, false, false, false, false, false, false, false, false, false] rfl rfl (any_of HT_.out (by kernel_rfl)) (fun _ _ _ h => h) (Or.inl ⟨by rfl, ?_⟩) ?_ ?_
             rotate_left
             ·intro w'
              go_simp
              with_reducible rfl
             rotate_left
             ·simp only [Act.put, List.setIfInBounds_toArray, List.set_cons_zero, List.set_cons_succ, i64_w, i32_w]
              rfl
             refine pure_ (i := 5) (N := some 66) (v := ?_) (a' := ?_) #[true, true, true, false, false, true, false, false, false, false, false, false, false, false, false, false, false, false, false] rfl rfl (any_of HT_.out (by kernel_rfl)) (fun _ _ _ h => h) (Or.inl ⟨by rfl, ?_⟩) ?_ ?_
             rotate_left
             ·intro w'
              go_simp
              with_reducible rfl
             rotate_left
             ·simp only [Act.put, List.setIfInBounds_toArray, List.set_cons_zero, List.set_cons_succ, i64_w, i32_w]
              rfl
             refine pure_ (i := 6) (N := some 67) (v := ?_) (a' := ?_) #[true, true, true, false, false, true, true, false, false, false, false, false, false, false, false, false, false, false, false] rfl rfl (any_of HT_.out (by kernel_rfl)) (fun _ _ _ h => h) (Or.inl ⟨by rfl, ?_⟩) ?_ ?_
             rotate_left
             ·intro w'
              go_simp
              with_reducible rfl
             rotate_left
             ·simp only [Act.put, List.setIfInBounds_toArray, List.set_cons_zero, List.set_cons_succ, i64_w, i32_w]
              rfl
             refine pure_ (i := 7) (N := some 68) (v := ?_) (a' := ?_) #[true, true, true, false, false, true, true, true, false, false, false, false, false, false, false, false, false, false, false] rfl rfl (any_of HT_.out (by kernel_rfl)) (fun _ _ _ h => h) (Or.inl ⟨by rfl, ?_⟩) ?_ ?_
             rotate_left
             ·intro w'
              go_simp
              with_reducible rfl
             rotate_left
             ·simp only [Act.put, List.setIfInBounds_toArray, List.set_cons_zero, List.set_cons_succ, i64_w, i32_w]
              rfl
             refine pure_ (i := 8) (N := some 69) (v := ?_) (a' := ?_) #[true, true, true, false, false, true, true, true, true, false, false, false, false, false, false, false, false, false, false] rfl rfl (any_of HT_.out (by kernel_rfl)) (fun _ _ _ h => h) (Or.inl ⟨by rfl, ?_⟩) ?_ ?_
             rotate_left
             ·intro w'
              go_simp
              with_reducible rfl
             rotate_left
             ·simp only [Act.put, List.setIfInBounds_toArray, List.set_cons_zero, List.set_cons_succ, i64_w, i32_w]
              rfl
             refine pure_ (i := 9) (N := some 70) (v := ?_) (a' := ?_) #[true, true, true, false, false, true, true, true, true, true, false, false, false, false, false, false, false, false, false] rfl rfl (any_of HT_.out (by kernel_rfl)) (fun _ _ _ h => h) (Or.inl ⟨by rfl, ?_⟩) ?_ ?_
             rotate_left
             ·intro w'
              go_simp
              with_reducible rfl
             rotate_left
             ·simp only [Act.put, List.setIfInBounds_toArray, List.set_cons_zero, List.set_cons_succ, i64_w, i32_w]
              rfl
             refine pure_ (i := 10) (N := some 71) (v := ?_) (a' := ?_) #[true, true, true, false, false, true, true, true, true, true, true, false, false, false, false, false, false, false, false] rfl rfl (any_of HT_.out (by kernel_rfl)) (fun _ _ _ h => h) (Or.inl ⟨by rfl, ?_⟩) ?_ ?_
             rotate_left
             ·intro w'
              go_simp
              with_reducible rfl
             rotate_left
             ·simp only [Act.put, List.setIfInBounds_toArray, List.set_cons_zero, List.set_cons_succ, i64_w, i32_w]
              rfl
             refine pure_ (i := 12) (N := some 73) (v := ?_) (a' := ?_) #[true, true, true, false, false, true, true, true, true, true, true, false, true, false, false, false, false, false, false] rfl rfl (any_of HT_.out (by kernel_rfl)) (fun _ _ _ h => h) (Or.inl ⟨by rfl, ?_⟩) ?_ ?_
             rotate_left
             ·intro w'
              go_simp
              with_reducible rfl
             rotate_left
             ·simp only [Act.put, List.setIfInBounds_toArray, List.set_cons_zero, List.set_cons_succ, i64_w, i32_w]
              rfl
             refine pure_ (i := 13) (N := some 74) (v := ?_) (a' := ?_) #[true, true, true, false, false, true, true, true, true, true, true, false, true, true, false, false, false, false, false] rfl rfl (any_of HT_.out (by kernel_rfl)) (fun _ _ _ h => h) (Or.inl ⟨by rfl, ?_⟩) ?_ ?_
             rotate_left
             ·intro w'
              go_simp
              with_reducible rfl
             rotate_left
             ·simp only [Act.put, List.setIfInBounds_toArray, List.set_cons_zero, List.set_cons_succ, i64_w, i32_w]
              rfl
             refine pure_ (i := 14) (N := some 75) (v := ?_) (a' := ?_) #[true, true, true, false, false, true, true, true, true, true, true, false, true, true, true, false, false, false, false] rfl rfl (any_of HT_.out (by kernel_rfl)) (fun _ _ _ h => h) (Or.inl ⟨by rfl, ?_⟩) ?_ ?_
             rotate_left
             ·intro w'
              go_simp
              with_reducible rfl
             rotate_left
             ·simp only [Act.put, List.setIfInBounds_toArray, List.set_cons_zero, List.set_cons_succ, i64_w, i32_w]
              rfl
             refine take_ (i := 3) (N := some 64) (v := ?_) (a' := ?_) #[true, true, true, true, false, true, true, true, true, true, true, false, true, true, true, false, false, false, false] rfl rfl (take_ofW HT_.out HW_.out (by kernel_rfl)) (fun _ _ _ h => h) (Or.inl ⟨by rfl, ?_⟩) hHeld ?_ ?_
             rotate_left
             ·intro w' s0
              go_simp
              with_reducible rfl
             rotate_left
             ·simp only [Act.put, List.setIfInBounds_toArray, List.set_cons_zero, List.set_cons_succ, i64_w, i32_w]
              rfl
             refine pure_ (i := 4) (N := some 65) (v := ?_) (a' := ?_) #[true, true, true, true, true, true, true, true, true, true, true, false, true, true, true, false, false, false, false] rfl rfl (any_of HT_.out (by kernel_rfl)) (fun _ _ _ h => h) (Or.inl ⟨by rfl, ?_⟩) ?_ ?_
             rotate_left
             ·intro w'
              go_simp
              with_reducible rfl
             rotate_left
             ·simp only [Act.put, List.setIfInBounds_toArray, List.set_cons_zero, List.set_cons_succ, i64_w, i32_w]
              rfl
             refine one_ (i := 11) (N := some 72) #[true, true, true, true, true, true, true, true, true, true, true, true, true, true, true, false, false, false, false] rfl rfl (one_of HT_.out (by kernel_rfl)) zq55 (fun K hK => ?_)
             refine goes_ Try.func155 (by kernel_rfl) rfl #[.slice A37 ((l0.take ((wrap64 ((ji31) + (wrap64 (rd l0 (ji5))))) : Int).toNat).drop ((ji31) : Int).toNat).length (c0 - (ji31).toNat)] zq121 rfl rfl (by (try simp only [List.map_toArray, List.map_cons, List.map_nil]); first | done | (rw [show ((l0.take ((wrap64 ((ji31) + (wrap64 (rd l0 (ji5))))) : Int).toNat).drop ((ji31) : Int).toNat).length = ((wrap64 ((ji31) + (wrap64 (rd l0 (ji5))))).toNat - (ji31).toNat) from (by rw [List.length_drop, List.length_take]; have h_ : ((wrap64 ((ji31) + (wrap64 (rd l0 (ji5))))) : Int) ≤ (l0.length : Int) := of_decide_eq_true zq4; omega)] <;> rfl) | (simp only [hji31, hji5]; rfl) | rfl | (simp only [List.length_drop, List.length_take]; rfl)) ?_
             with_reducible refine (impl_copyBytes.calls _ _ ((l0.take ((wrap64 ((ji31) + (wrap64 (rd l0 (ji5))))) : Int).toNat).drop ((ji31) : Int).toNat) t240 _ ?side1 ?side2 A35.out).mono ?_
             (case side1 => repeat (first | exact (Kd.C_below HR239.out HB.out) | (with_reducible refine Kd.C_alloc ?_ _) | (with_reducible refine Kd.C_drewN ?_ _) | (with_reducible refine Kd.C_drew ?_)))
             (case side2 => exact HC239.out)
             rintro e w38 ⟨v241, rfl, ho0, hb⟩
             refine ⟨_, rfl, ?_⟩
             have n0_ := zA (Kd.R_lower ho0 (below_size zq0))
             have n1_ := zA (below_step zq0 hb)
             clear HB
             have HO242 := n0_
             have HB := n1_
             clear n0_ n1_
             (try clear hb)
             (try clear hb2)
             (try clear hk)
             (try clear hi)
             (try clear ho0)
             refine hK.out _ _ (((HB.out.cell (World.block_lt_of_cell? w _ hw238_0)).trans hw238_0)) (fun hHeld => ?_)
             clear hK K
             refine norm_ (a' := ?_) ?_ ?_
             rotate_left
             ·show Act.put _ (some 72) _ = _
              simp only [Act.put, List.setIfInBounds_toArray, List.set_cons_zero, List.set_cons_succ, i64_w, i32_w]
              rfl
             refine pure_ (i := 15) (N := some 4) (v := ?_) (a' := ?_) #[true, true, true, true, true, true, true, true, true, true, true, true, true, true, true, true, false, false, false] rfl rfl (any_of HT_.out (by kernel_rfl)) (fun _ _ _ h => h) (Or.inl ⟨by rfl, ?_⟩) ?_ ?_
             rotate_left
             ·intro w'
              go_simp
              with_reducible rfl
             rotate_left
             ·simp only [Act.put, List.setIfInBounds_toArray, List.set_cons_zero, List.set_cons_succ, i64_w, i32_w]
              rfl
             refine pure_ (i := 16) (N := some 5) (v := ?_) (a' := ?_) #[true, true, true, true, true, true, true, true, true, true, true, true, true, true, true, true, true, false, false] rfl rfl (any_of HT_.out (by kernel_rfl)) (fun _ _ _ h => h) (Or.inl ⟨by rfl, ?_⟩) ?_ ?_
             rotate_left
             ·intro w'
              go_simp
              with_reducible rfl
             rotate_left
             ·simp only [Act.put, List.setIfInBounds_toArray, List.set_cons_zero, List.set_cons_succ, i64_w, i32_w]
              rfl
             refine pure_ (i := 17) (N := some 6) (v := ?_) (a' := ?_) #[true, true, true, true, true, true, true, true, true, true, true, true, true, true, true, true, true, true, false] rfl rfl (any_of HT_.out (by kernel_rfl)) (fun _ _ _ h => h) (Or.inl ⟨by rfl, ?_⟩) ?_ ?_
             rotate_left
             ·intro w'
              go_simp
              with_reducible rfl
             rotate_left
             ·simp only [Act.put, List.setIfInBounds_toArray, List.set_cons_zero, List.set_cons_succ, i64_w, i32_w]
              rfl
             refine pure_ (i := 18) (N := some 7) (v := ?_) (a' := ?_) #[true, true, true, true, true, true, true, true, true, true, true, true, true, true, true, true, true, true, true] rfl rfl (any_of HT_.out (by kernel_rfl)) (fun _ _ _ h => h) (Or.inl ⟨by rfl, ?_⟩) ?_ ?_
             rotate_left
             ·intro w'
              go_simp
              with_reducible rfl
             rotate_left
             ·simp only [Act.put, List.setIfInBounds_toArray, List.set_cons_zero, List.set_cons_succ, i64_w, i32_w]
              rfl
             refine done_ (done_of HT_.out (by kernel_rfl)) ?_
             try go_wp2
             refine bodyPost_ret (results_list (rs := [.tmp 4, .tmp 5, .tmp 6, .tmp 7]) rfl zq48 (.tmp (.tmp (.tmp (.tmp .nil))))) rfl ?_
             exact ⟨_, by first | rfl | (simp [errW_none, errW_some] <;> rfl) | (simp only [← hji5, ← hji31]; first | rfl | (simp [errW_none, errW_some] <;> rfl)) | (simp [*, errW_none, errW_some] <;> rfl), by (with_reducible repeat (first | apply Kd.R_alloc | apply Kd.R_drewN | apply Kd.R_drew)); exact HO242.out, by repeat (first | (with_reducible first | exact HB.out | apply below_alloc | apply pw_below_drewN | apply below_drew1) | exact HB.out)⟩
            ·rw [if_neg c34] at H
             exact absurd H zq48
           ·rw [if_neg c33] at H
            exact absurd H zq48
          ·rw [if_neg c32] at H
           exact absurd H zq48
         ·rw [if_neg c30] at H
          exact absurd H zq48
        ·rw [if_neg c29] at H
         exact absurd H zq48
    ·rw [if_neg c7] at H
     exact absurd H zq48
   ·rw [if_neg c6] at H
    exact absurd H zq48

end Go.Proofs.Ytkcgghgkmgbphaa.PFnVecs
