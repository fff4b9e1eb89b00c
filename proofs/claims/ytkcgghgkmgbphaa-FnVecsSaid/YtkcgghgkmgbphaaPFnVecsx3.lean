-- WRITTEN BY a turned copy of the kit's printer (wip/patch_print.py), for this claim
import Derived.Test.YtkcgghgkmgbphaaPFnVecsx0
namespace Go.Proofs.Ytkcgghgkmgbphaa.PFnVecs
open Go.RowKit Go.Proofs.YtkcgghgkmgbphaaW.PrintWords Go.Proofs.YtkcgghgkmgbphaaW.PrintLast Go.Proofs.YtkcgghgkmgbphaaW.PrintMore
attribute [local go_sem] max2_int min2_int max_two min_two max_three min_three max_four min_four   -- for this text's walks alone
set_option linter.unusedVariables false
set_option linter.unusedSimpArgs false

/-! ### spec_GetTlv: function 117 -/
def spec_GetTlv.f (l0 : List Int) (a1 : Int) : Option (Int × List Int × Int × Bool) := if a1 < 0 then (some (0, (([] : List Int)), 0, false)) else (if a1 ≥ (l0.length : Int) then (some (0, (([] : List Int)), 0, false)) else (if (wrap64 (a1 + 1)) ≥ (l0.length : Int) then (some (0, (([] : List Int)), 0, false)) else (if 0 ≤ (wrap64 (a1 + 1)) then (if (wrap64 (a1 + 1)) < (l0.length : Int) then (if (wrap64 (rd l0 (wrap64 (a1 + 1)))) > 127 then (if (wrap64 (rd l0 (wrap64 (a1 + 1)))) = 129 then (if (wrap64 (a1 + 2)) ≥ (l0.length : Int) then (some (0, (([] : List Int)), 0, false)) else (if 0 ≤ (wrap64 (a1 + 2)) then (if (wrap64 (a1 + 2)) < (l0.length : Int) then (if (rd l0 (wrap64 (a1 + 2))) < 128 then (some (0, (([] : List Int)), 0, false)) else (if (wrap64 (rd l0 (wrap64 (a1 + 2)))) > 250 then (some (0, (([] : List Int)), 0, false)) else (if (wrap64 (rd l0 (wrap64 (a1 + 2)))) > (wrap64 ((l0.length : Int) - (wrap64 ((wrap64 (a1 + 2)) + 1)))) then (some (0, (([] : List Int)), 0, false)) else (if 0 ≤ a1 then (if a1 < (l0.length : Int) then ((some (([] : List Int) : List Int)).bind fun y134 => (if 0 ≤ (wrap64 ((wrap64 (a1 + 2)) + 1)) then (if (wrap64 ((wrap64 (a1 + 2)) + 1)) ≤ (wrap64 ((wrap64 ((wrap64 (a1 + 2)) + 1)) + (wrap64 (rd l0 (wrap64 (a1 + 2)))))) then (if (wrap64 ((wrap64 ((wrap64 (a1 + 2)) + 1)) + (wrap64 (rd l0 (wrap64 (a1 + 2)))))) ≤ (l0.length : Int) then (if y134.length + ((l0.take ((wrap64 ((wrap64 ((wrap64 (a1 + 2)) + 1)) + (wrap64 (rd l0 (wrap64 (a1 + 2)))))) : Int).toNat).drop ((wrap64 ((wrap64 (a1 + 2)) + 1)) : Int).toNat).length < 140737488355328 then (some (wrap64 (rd l0 a1), (y134 ++ ((l0.take ((wrap64 ((wrap64 ((wrap64 (a1 + 2)) + 1)) + (wrap64 (rd l0 (wrap64 (a1 + 2)))))) : Int).toNat).drop ((wrap64 ((wrap64 (a1 + 2)) + 1)) : Int).toNat)), wrap64 ((wrap64 ((wrap64 (a1 + 2)) + 1)) + (wrap64 (rd l0 (wrap64 (a1 + 2))))), true)) else (none)) else (none)) else (none)) else (none))) else (none)) else (none))))) else (none)) else (none))) else (some (0, (([] : List Int)), 0, false))) else (if (wrap64 (rd l0 (wrap64 (a1 + 1)))) > 250 then (some (0, (([] : List Int)), 0, false)) else (if (wrap64 (rd l0 (wrap64 (a1 + 1)))) > (wrap64 ((l0.length : Int) - (wrap64 (a1 + 2)))) then (some (0, (([] : List Int)), 0, false)) else (if 0 ≤ a1 then (if a1 < (l0.length : Int) then ((some (([] : List Int) : List Int)).bind fun y151 => (if 0 ≤ (wrap64 (a1 + 2)) then (if (wrap64 (a1 + 2)) ≤ (wrap64 ((wrap64 (a1 + 2)) + (wrap64 (rd l0 (wrap64 (a1 + 1)))))) then (if (wrap64 ((wrap64 (a1 + 2)) + (wrap64 (rd l0 (wrap64 (a1 + 1)))))) ≤ (l0.length : Int) then (if y151.length + ((l0.take ((wrap64 ((wrap64 (a1 + 2)) + (wrap64 (rd l0 (wrap64 (a1 + 1)))))) : Int).toNat).drop ((wrap64 (a1 + 2)) : Int).toNat).length < 140737488355328 then (some (wrap64 (rd l0 a1), (y151 ++ ((l0.take ((wrap64 ((wrap64 (a1 + 2)) + (wrap64 (rd l0 (wrap64 (a1 + 1)))))) : Int).toNat).drop ((wrap64 (a1 + 2)) : Int).toNat)), wrap64 ((wrap64 (a1 + 2)) + (wrap64 (rd l0 (wrap64 (a1 + 1))))), true)) else (none)) else (none)) else (none)) else (none))) else (none)) else (none))))) else (none)) else (none))))
def spec_GetTlv.T12 : Bool × List (List Nat × List Nat) := (true, [([], []), ([], []), ([0, 1], [0, 1]), ([2], [2]), ([3], [3]), ([], []), ([], []), ([], []), ([], []), ([], []), ([8, 9], [8, 9]), ([6, 7, 10], [6, 7, 10]), ([5, 11], [5, 11]), ([], []), ([], []), ([13, 14], [13, 14]), ([4, 12, 0, 1, 2, 3, 4], [4]), ([12, 16, 0, 1, 2, 3, 4, 5, 6, 7, 8, 9, 10, 11, 12, 16], [12]), ([15, 17, 0, 1, 2, 3, 4, 5, 6, 7, 8, 9, 10, 11, 12, 13, 14, 15, 16, 17], [15]), ([18, 0, 1, 2, 3, 4, 5, 6, 7, 8, 9, 10, 11, 12, 13, 14, 15, 16, 17, 18], [])])
def spec_GetTlv.B12 : List Nat := [0, 0, 3, 7, 15, 0, 0, 0, 0, 0, 768, 1984, 4064, 0, 0, 24576, 8191, 73727, 262143, 524287]
theorem spec_GetTlv.tab12 : rtab .any (opsOf Try.f117 12) = spec_GetTlv.T12 := by kernel_rfl
theorem spec_GetTlv.bits12 : waitsOk spec_GetTlv.T12.2 spec_GetTlv.B12 = true := by kernel_rfl
set_option maxHeartbeats 8000000 in
set_option maxRecDepth 100000 in
theorem spec_GetTlv.calls (A0 : Option Addr) (c0 : Nat) (l0 : List Int) (a1 : Int) (r1 : Int) (r2 : List Int) (r3 : Int) (r4 : Bool) (w : World) (hr0 : Kd.C (Kd.int .u8) w A0 l0.length l0) (hc0 : l0.length ≤ c0) (h : spec_GetTlv.f l0 a1 = some (r1, r2, r3, r4)) :
  Calls Try.prog 117 #[.slice A0 l0.length c0, .int .i64 a1] w fun e w' => ∃ v1_ : Value, e = .returned (.tuple #[.int .i64 r1, v1_, .int .i64 r3, .bool r4]) ∧ Kd.R (Kd.int .u8) 5 w' w.heap.size (fun _ => True) v1_ r2 ∧ Below w.heap.size w w' := by
 have HR0 := zA hr0
 have HC0 := zA hc0
 clear hr0 hc0
 have HB := zA (Below.refl w.heap.size w)
 have H : (if a1 < 0 then (some (0, (([] : List Int)), 0, false)) else (if a1 ≥ (l0.length : Int) then (some (0, (([] : List Int)), 0, false)) else (if (wrap64 (a1 + 1)) ≥ (l0.length : Int) then (some (0, (([] : List Int)), 0, false)) else (if 0 ≤ (wrap64 (a1 + 1)) then (if (wrap64 (a1 + 1)) < (l0.length : Int) then (if (wrap64 (rd l0 (wrap64 (a1 + 1)))) > 127 then (if (wrap64 (rd l0 (wrap64 (a1 + 1)))) = 129 then (if (wrap64 (a1 + 2)) ≥ (l0.length : Int) then (some (0, (([] : List Int)), 0, false)) else (if 0 ≤ (wrap64 (a1 + 2)) then (if (wrap64 (a1 + 2)) < (l0.length : Int) then (if (rd l0 (wrap64 (a1 + 2))) < 128 then (some (0, (([] : List Int)), 0, false)) else (if (wrap64 (rd l0 (wrap64 (a1 + 2)))) > 250 then (some (0, (([] : List Int)), 0, false)) else (if (wrap64 (rd l0 (wrap64 (a1 + 2)))) > (wrap64 ((l0.length : Int) - (wrap64 ((wrap64 (a1 + 2)) + 1)))) then (some (0, (([] : List Int)), 0, false)) else (if 0 ≤ a1 then (if a1 < (l0.length : Int) then ((some (([] : List Int) : List Int)).bind fun y134 => (if 0 ≤ (wrap64 ((wrap64 (a1 + 2)) + 1)) then (if (wrap64 ((wrap64 (a1 + 2)) + 1)) ≤ (wrap64 ((wrap64 ((wrap64 (a1 + 2)) + 1)) + (wrap64 (rd l0 (wrap64 (a1 + 2)))))) then (if (wrap64 ((wrap64 ((wrap64 (a1 + 2)) + 1)) + (wrap64 (rd l0 (wrap64 (a1 + 2)))))) ≤ (l0.length : Int) then (if y134.length + ((l0.take ((wrap64 ((wrap64 ((wrap64 (a1 + 2)) + 1)) + (wrap64 (rd l0 (wrap64 (a1 + 2)))))) : Int).toNat).drop ((wrap64 ((wrap64 (a1 + 2)) + 1)) : Int).toNat).length < 140737488355328 then (some (wrap64 (rd l0 a1), (y134 ++ ((l0.take ((wrap64 ((wrap64 ((wrap64 (a1 + 2)) + 1)) + (wrap64 (rd l0 (wrap64 (a1 + 2)))))) : Int).toNat).drop ((wrap64 ((wrap64 (a1 + 2)) + 1)) : Int).toNat)), wrap64 ((wrap64 ((wrap64 (a1 + 2)) + 1)) + (wrap64 (rd l0 (wrap64 (a1 + 2))))), true)) else (none)) else (none)) else (none)) else (none))) else (none)) else (none))))) else (none)) else (none))) else (some (0, (([] : List Int)), 0, false))) else (if (wrap64 (rd l0 (wrap64 (a1 + 1)))) > 250 then (some (0, (([] : List Int)), 0, false)) else (if (wrap64 (rd l0 (wrap64 (a1 + 1)))) > (wrap64 ((l0.length : Int) - (wrap64 (a1 + 2)))) then (some (0, (([] : List Int)), 0, false)) else (if 0 ≤ a1 then (if a1 < (l0.length : Int) then ((some (([] : List Int) : List Int)).bind fun y151 => (if 0 ≤ (wrap64 (a1 + 2)) then (if (wrap64 (a1 + 2)) ≤ (wrap64 ((wrap64 (a1 + 2)) + (wrap64 (rd l0 (wrap64 (a1 + 1)))))) then (if (wrap64 ((wrap64 (a1 + 2)) + (wrap64 (rd l0 (wrap64 (a1 + 1)))))) ≤ (l0.length : Int) then (if y151.length + ((l0.take ((wrap64 ((wrap64 (a1 + 2)) + (wrap64 (rd l0 (wrap64 (a1 + 1)))))) : Int).toNat).drop ((wrap64 (a1 + 2)) : Int).toNat).length < 140737488355328 then (some (wrap64 (rd l0 a1), (y151 ++ ((l0.take ((wrap64 ((wrap64 (a1 + 2)) + (wrap64 (rd l0 (wrap64 (a1 + 1)))))) : Int).toNat).drop ((wrap64 (a1 + 2)) : Int).toNat)), wrap64 ((wrap64 (a1 + 2)) + (wrap64 (rd l0 (wrap64 (a1 + 1))))), true)) else (none)) else (none)) else (none)) else (none))) else (none)) else (none))))) else (none)) else (none))))) = some (r1, r2, r3, r4) := h
 clear h
 by_cases c3 : a1 < 0
 ·rw [if_pos c3] at H
  have c3b0 : decide (a1 < 0) = true := decide_eq_true c3
  clear c3
  obtain ⟨y109, hy109⟩ : ∃ y_ : List Int, y_ = (([] : List Int)) := ⟨_, rfl⟩
  replace H : (some (0, y109, 0, false)) = some (r1, r2, r3, r4) := by first | (rw [hy109]; with_reducible exact H) | (have H2_ := (Option.bind_some _ _).symm.trans H; rw [hy109]; with_reducible exact H2_) | (have H2_ := (Option.bind_some _ _).symm.trans H; with_reducible exact H2_) | with_reducible exact H | (rw [hy109]; exact H) | exact H
  have Ny109 := zA hy109
  clear hy109
  simp only [Option.some.injEq, Prod.mk.injEq] at H
  obtain ⟨rfl, rfl, rfl, rfl⟩ := H
  go_enter Try.func117, Try.ntmps117
  go_wp2_with (first | ((with_reducible refine gate_dst (N := 25) rfl ?_); (try (refine gate_guard zq121 ?_; dsimp only)); refine Kd.R_lit (Kd.int .u8) _ 5 ?hg (N := 25) ?hd (xs := ([] : List Int)) (inner := []) (ok := fun _ => True) (okp := fun _ => True) ?hr ?hp (fun _ hk => hk) trivial (Below.refl _ _) (Nat.le_refl _) zq48 ?_; (case hd => rfl); (case hg => rfl); (case hr => first | (go_simp; done) | (go_simp; rfl)); (case hp => exact (Reps.none _ _)); intro v110 w4 ho5 hb hg_ hnew_; clear hg_ hnew_; (first | rw [← Ny109.out] at ho5 | (simp only [Int.reduceToNat] at ho5; rw [← Ny109.out] at ho5)); have HO111 := zA (Kd.R_lower ho5 (below_size zq0)); replace HB := zA (below_step zq0 hb); clear hb ho5))
  refine bodyPost_ret (results_list (rs := [.tmp 4, .tmp 5, .tmp 6, .tmp 7]) rfl zq48 (.tmp (.tmp (.tmp (.tmp .nil))))) rfl ?_
  exact ⟨_, by first | rfl | (simp [errW_none, errW_some] <;> rfl) | (simp [*, errW_none, errW_some] <;> rfl), by (with_reducible repeat (first | apply Kd.R_alloc | apply Kd.R_drewN | apply Kd.R_drew)); exact HO111.out, by repeat (first | (with_reducible first | exact HB.out | apply below_alloc | apply pw_below_drewN | apply below_drew1) | exact HB.out)⟩
 ·rw [if_neg c3] at H
  have c3b0 : decide (a1 < 0) = false := decide_eq_false c3
  clear c3
  by_cases c6 : a1 ≥ (l0.length : Int)
  ·rw [if_pos c6] at H
   have c6b0 : decide ((l0.length : Int) ≤ a1) = true := decide_eq_true c6
   clear c6
   obtain ⟨y112, hy112⟩ : ∃ y_ : List Int, y_ = (([] : List Int)) := ⟨_, rfl⟩
   replace H : (some (0, y112, 0, false)) = some (r1, r2, r3, r4) := by first | (rw [hy112]; with_reducible exact H) | (have H2_ := (Option.bind_some _ _).symm.trans H; rw [hy112]; with_reducible exact H2_) | (have H2_ := (Option.bind_some _ _).symm.trans H; with_reducible exact H2_) | with_reducible exact H | (rw [hy112]; exact H) | exact H
   have Ny112 := zA hy112
   clear hy112
   simp only [Option.some.injEq, Prod.mk.injEq] at H
   obtain ⟨rfl, rfl, rfl, rfl⟩ := H
   go_enter Try.func117, Try.ntmps117
   go_wp2_with (first | ((with_reducible refine gate_dst (N := 25) rfl ?_); (try (refine gate_guard zq121 ?_; dsimp only)); refine Kd.R_lit (Kd.int .u8) _ 5 ?hg (N := 25) ?hd (xs := ([] : List Int)) (inner := []) (ok := fun _ => True) (okp := fun _ => True) ?hr ?hp (fun _ hk => hk) trivial (Below.refl _ _) (Nat.le_refl _) zq48 ?_; (case hd => rfl); (case hg => rfl); (case hr => first | (go_simp; done) | (go_simp; rfl)); (case hp => exact (Reps.none _ _)); intro v113 w7 ho8 hb hg_ hnew_; clear hg_ hnew_; (first | rw [← Ny112.out] at ho8 | (simp only [Int.reduceToNat] at ho8; rw [← Ny112.out] at ho8)); have HO114 := zA (Kd.R_lower ho8 (below_size zq0)); replace HB := zA (below_step zq0 hb); clear hb ho8))
   refine bodyPost_ret (results_list (rs := [.tmp 4, .tmp 5, .tmp 6, .tmp 7]) rfl zq48 (.tmp (.tmp (.tmp (.tmp .nil))))) rfl ?_
   exact ⟨_, by first | rfl | (simp [errW_none, errW_some] <;> rfl) | (simp [*, errW_none, errW_some] <;> rfl), by (with_reducible repeat (first | apply Kd.R_alloc | apply Kd.R_drewN | apply Kd.R_drew)); exact HO114.out, by repeat (first | (with_reducible first | exact HB.out | apply below_alloc | apply pw_below_drewN | apply below_drew1) | exact HB.out)⟩
  ·rw [if_neg c6] at H
   have c6b0 : decide ((l0.length : Int) ≤ a1) = false := decide_eq_false c6
   clear c6
   by_cases c9 : (wrap64 (a1 + 1)) ≥ (l0.length : Int)
   ·rw [if_pos c9] at H
    have c9b0 : decide ((l0.length : Int) ≤ (wrap64 (a1 + 1))) = true := decide_eq_true c9
    clear c9
    obtain ⟨y115, hy115⟩ : ∃ y_ : List Int, y_ = (([] : List Int)) := ⟨_, rfl⟩
    replace H : (some (0, y115, 0, false)) = some (r1, r2, r3, r4) := by first | (rw [hy115]; with_reducible exact H) | (have H2_ := (Option.bind_some _ _).symm.trans H; rw [hy115]; with_reducible exact H2_) | (have H2_ := (Option.bind_some _ _).symm.trans H; with_reducible exact H2_) | with_reducible exact H | (rw [hy115]; exact H) | exact H
    have Ny115 := zA hy115
    clear hy115
    simp only [Option.some.injEq, Prod.mk.injEq] at H
    obtain ⟨rfl, rfl, rfl, rfl⟩ := H
    go_enter Try.func117, Try.ntmps117
    go_wp2_with (first | ((with_reducible refine gate_dst (N := 25) rfl ?_); (try (refine gate_guard zq121 ?_; dsimp only)); refine Kd.R_lit (Kd.int .u8) _ 5 ?hg (N := 25) ?hd (xs := ([] : List Int)) (inner := []) (ok := fun _ => True) (okp := fun _ => True) ?hr ?hp (fun _ hk => hk) trivial (Below.refl _ _) (Nat.le_refl _) zq48 ?_; (case hd => rfl); (case hg => rfl); (case hr => first | (go_simp; done) | (go_simp; rfl)); (case hp => exact (Reps.none _ _)); intro v116 w10 ho11 hb hg_ hnew_; clear hg_ hnew_; (first | rw [← Ny115.out] at ho11 | (simp only [Int.reduceToNat] at ho11; rw [← Ny115.out] at ho11)); have HO117 := zA (Kd.R_lower ho11 (below_size zq0)); replace HB := zA (below_step zq0 hb); clear hb ho11))
    refine bodyPost_ret (results_list (rs := [.tmp 4, .tmp 5, .tmp 6, .tmp 7]) rfl zq48 (.tmp (.tmp (.tmp (.tmp .nil))))) rfl ?_
    exact ⟨_, by first | rfl | (simp [errW_none, errW_some] <;> rfl) | (simp [*, errW_none, errW_some] <;> rfl), by (with_reducible repeat (first | apply Kd.R_alloc | apply Kd.R_drewN | apply Kd.R_drew)); exact HO117.out, by repeat (first | (with_reducible first | exact HB.out | apply below_alloc | apply pw_below_drewN | apply below_drew1) | exact HB.out)⟩
   ·rw [if_neg c9] at H
    have c9b0 : decide ((l0.length : Int) ≤ (wrap64 (a1 + 1))) = false := decide_eq_false c9
    clear c9
    obtain ⟨ji12, hji12⟩ : ∃ j_ : Int, (wrap64 (a1 + 1)) = j_ := ⟨_, rfl⟩
    replace H : (if 0 ≤ (ji12) then (if (ji12) < (l0.length : Int) then (if (wrap64 (rd l0 (ji12))) > 127 then (if (wrap64 (rd l0 (ji12))) = 129 then (if (wrap64 (a1 + 2)) ≥ (l0.length : Int) then (some (0, (([] : List Int)), 0, false)) else (if 0 ≤ (wrap64 (a1 + 2)) then (if (wrap64 (a1 + 2)) < (l0.length : Int) then (if (rd l0 (wrap64 (a1 + 2))) < 128 then (some (0, (([] : List Int)), 0, false)) else (if (wrap64 (rd l0 (wrap64 (a1 + 2)))) > 250 then (some (0, (([] : List Int)), 0, false)) else (if (wrap64 (rd l0 (wrap64 (a1 + 2)))) > (wrap64 ((l0.length : Int) - (wrap64 ((wrap64 (a1 + 2)) + 1)))) then (some (0, (([] : List Int)), 0, false)) else (if 0 ≤ a1 then (if a1 < (l0.length : Int) then ((some (([] : List Int) : List Int)).bind fun y134 => (if 0 ≤ (wrap64 ((wrap64 (a1 + 2)) + 1)) then (if (wrap64 ((wrap64 (a1 + 2)) + 1)) ≤ (wrap64 ((wrap64 ((wrap64 (a1 + 2)) + 1)) + (wrap64 (rd l0 (wrap64 (a1 + 2)))))) then (if (wrap64 ((wrap64 ((wrap64 (a1 + 2)) + 1)) + (wrap64 (rd l0 (wrap64 (a1 + 2)))))) ≤ (l0.length : Int) then (if y134.length + ((l0.take ((wrap64 ((wrap64 ((wrap64 (a1 + 2)) + 1)) + (wrap64 (rd l0 (wrap64 (a1 + 2)))))) : Int).toNat).drop ((wrap64 ((wrap64 (a1 + 2)) + 1)) : Int).toNat).length < 140737488355328 then (some (wrap64 (rd l0 a1), (y134 ++ ((l0.take ((wrap64 ((wrap64 ((wrap64 (a1 + 2)) + 1)) + (wrap64 (rd l0 (wrap64 (a1 + 2)))))) : Int).toNat).drop ((wrap64 ((wrap64 (a1 + 2)) + 1)) : Int).toNat)), wrap64 ((wrap64 ((wrap64 (a1 + 2)) + 1)) + (wrap64 (rd l0 (wrap64 (a1 + 2))))), true)) else (none)) else (none)) else (none)) else (none))) else (none)) else (none))))) else (none)) else (none))) else (some (0, (([] : List Int)), 0, false))) else (if (wrap64 (rd l0 (ji12))) > 250 then (some (0, (([] : List Int)), 0, false)) else (if (wrap64 (rd l0 (ji12))) > (wrap64 ((l0.length : Int) - (wrap64 (a1 + 2)))) then (some (0, (([] : List Int)), 0, false)) else (if 0 ≤ a1 then (if a1 < (l0.length : Int) then ((some (([] : List Int) : List Int)).bind fun y151 => (if 0 ≤ (wrap64 (a1 + 2)) then (if (wrap64 (a1 + 2)) ≤ (wrap64 ((wrap64 (a1 + 2)) + (wrap64 (rd l0 (ji12))))) then (if (wrap64 ((wrap64 (a1 + 2)) + (wrap64 (rd l0 (ji12))))) ≤ (l0.length : Int) then (if y151.length + ((l0.take ((wrap64 ((wrap64 (a1 + 2)) + (wrap64 (rd l0 (ji12))))) : Int).toNat).drop ((wrap64 (a1 + 2)) : Int).toNat).length < 140737488355328 then (some (wrap64 (rd l0 a1), (y151 ++ ((l0.take ((wrap64 ((wrap64 (a1 + 2)) + (wrap64 (rd l0 (ji12))))) : Int).toNat).drop ((wrap64 (a1 + 2)) : Int).toNat)), wrap64 ((wrap64 (a1 + 2)) + (wrap64 (rd l0 (ji12)))), true)) else (none)) else (none)) else (none)) else (none))) else (none)) else (none))))) else (none)) else (none)) = some (r1, r2, r3, r4) := by first | (rw [hji12] at H; exact H) | (simp only [hji12] at H ⊢; exact H)
    (try rw [hji12] at c9b0)
    have hji12w : (IntKind.i64.wrap (a1 + 1)) = ji12 := (i64_w _).trans hji12
    by_cases c13 : 0 ≤ (ji12)
    ·rw [if_pos c13] at H
     have c13b0 : decide (0 ≤ (ji12)) = true := decide_eq_true c13
     clear c13
     by_cases c14 : (ji12) < (l0.length : Int)
     ·rw [if_pos c14] at H
      have c14b0 : decide ((ji12) < (l0.length : Int)) = true := decide_eq_true c14
      clear c14
      by_cases c15 : (wrap64 (rd l0 (ji12))) > 127
      ·rw [if_pos c15] at H
       have c15b0 : decide (127 < (wrap64 (rd l0 (ji12)))) = true := decide_eq_true c15
       clear c15
       by_cases c16 : (wrap64 (rd l0 (ji12))) = 129
       ·rw [if_pos c16] at H
        have c16b0 : ((wrap64 (rd l0 (ji12))) == 129) = true := beq_iff_eq.mpr c16
        have c16b1 : ((wrap64 (rd l0 (ji12))) != 129) = false := bne_eq_false_iff_eq.mpr c16
        clear c16
        by_cases c17 : (wrap64 (a1 + 2)) ≥ (l0.length : Int)
        ·rw [if_pos c17] at H
         have c17b0 : decide ((l0.length : Int) ≤ (wrap64 (a1 + 2))) = true := decide_eq_true c17
         clear c17
         obtain ⟨y119, hy119⟩ : ∃ y_ : List Int, y_ = (([] : List Int)) := ⟨_, rfl⟩
         replace H : (some (0, y119, 0, false)) = some (r1, r2, r3, r4) := by first | (rw [hy119]; with_reducible exact H) | (have H2_ := (Option.bind_some _ _).symm.trans H; rw [hy119]; with_reducible exact H2_) | (have H2_ := (Option.bind_some _ _).symm.trans H; with_reducible exact H2_) | with_reducible exact H | (rw [hy119]; exact H) | exact H
         have Ny119 := zA hy119
         clear hy119
         simp only [Option.some.injEq, Prod.mk.injEq] at H
         obtain ⟨rfl, rfl, rfl, rfl⟩ := H
         have p118 : 0 ≤ ((ji12) : Int) := of_decide_eq_true zq4
         have q118 : (ji12) < (l0.length : Int) := of_decide_eq_true zq4
         obtain ⟨ad118, e118, hx118_0⟩ := Kd.at_int HR0.out (ji12) p118 q118
         cases e118
         replace p118 := eq_true p118
         replace q118 := eq_true q118
         go_enter Try.func117, Try.ntmps117
         go_wp2_with (first | ((with_reducible refine gate_dst (N := 51) rfl ?_); (try (refine gate_guard zq121 ?_; dsimp only)); refine Kd.R_lit (Kd.int .u8) _ 5 ?hg (N := 51) ?hd (xs := ([] : List Int)) (inner := []) (ok := fun _ => True) (okp := fun _ => True) ?hr ?hp (fun _ hk => hk) trivial (Below.refl _ _) (Nat.le_refl _) zq48 ?_; (case hd => rfl); (case hg => rfl); (case hr => first | (go_simp; done) | (go_simp; rfl)); (case hp => exact (Reps.none _ _)); intro v120 w18 ho19 hb hg_ hnew_; clear hg_ hnew_; (first | rw [← Ny119.out] at ho19 | (simp only [Int.reduceToNat] at ho19; rw [← Ny119.out] at ho19)); have HO121 := zA (Kd.R_lower ho19 (below_size zq0)); replace HB := zA (below_step zq0 hb); clear hb ho19))
         refine bodyPost_ret (results_list (rs := [.tmp 4, .tmp 5, .tmp 6, .tmp 7]) rfl zq48 (.tmp (.tmp (.tmp (.tmp .nil))))) rfl ?_
         exact ⟨_, by first | rfl | (simp [errW_none, errW_some] <;> rfl) | (simp only [← hji12]; first | rfl | (simp [errW_none, errW_some] <;> rfl)) | (simp [*, errW_none, errW_some] <;> rfl), by (with_reducible repeat (first | apply Kd.R_alloc | apply Kd.R_drewN | apply Kd.R_drew)); exact HO121.out, by repeat (first | (with_reducible first | exact HB.out | apply below_alloc | apply pw_below_drewN | apply below_drew1) | exact HB.out)⟩
        ·rw [if_neg c17] at H
         have c17b0 : decide ((l0.length : Int) ≤ (wrap64 (a1 + 2))) = false := decide_eq_false c17
         clear c17
         obtain ⟨ji20, hji20⟩ : ∃ j_ : Int, (wrap64 (a1 + 2)) = j_ := ⟨_, rfl⟩
         replace H : (if 0 ≤ (ji20) then (if (ji20) < (l0.length : Int) then (if (rd l0 (ji20)) < 128 then (some (0, (([] : List Int)), 0, false)) else (if (wrap64 (rd l0 (ji20))) > 250 then (some (0, (([] : List Int)), 0, false)) else (if (wrap64 (rd l0 (ji20))) > (wrap64 ((l0.length : Int) - (wrap64 ((ji20) + 1)))) then (some (0, (([] : List Int)), 0, false)) else (if 0 ≤ a1 then (if a1 < (l0.length : Int) then ((some (([] : List Int) : List Int)).bind fun y134 => (if 0 ≤ (wrap64 ((ji20) + 1)) then (if (wrap64 ((ji20) + 1)) ≤ (wrap64 ((wrap64 ((ji20) + 1)) + (wrap64 (rd l0 (ji20))))) then (if (wrap64 ((wrap64 ((ji20) + 1)) + (wrap64 (rd l0 (ji20))))) ≤ (l0.length : Int) then (if y134.length + ((l0.take ((wrap64 ((wrap64 ((ji20) + 1)) + (wrap64 (rd l0 (ji20))))) : Int).toNat).drop ((wrap64 ((ji20) + 1)) : Int).toNat).length < 140737488355328 then (some (wrap64 (rd l0 a1), (y134 ++ ((l0.take ((wrap64 ((wrap64 ((ji20) + 1)) + (wrap64 (rd l0 (ji20))))) : Int).toNat).drop ((wrap64 ((ji20) + 1)) : Int).toNat)), wrap64 ((wrap64 ((ji20) + 1)) + (wrap64 (rd l0 (ji20)))), true)) else (none)) else (none)) else (none)) else (none))) else (none)) else (none))))) else (none)) else (none)) = some (r1, r2, r3, r4) := by first | (rw [hji20] at H; exact H) | (simp only [hji20] at H ⊢; exact H)
         (try rw [hji20] at c17b0)
         have hji20w : (IntKind.i64.wrap (a1 + 2)) = ji20 := (i64_w _).trans hji20
         by_cases c21 : 0 ≤ (ji20)
         ·rw [if_pos c21] at H
          have c21b0 : decide (0 ≤ (ji20)) = true := decide_eq_true c21
          clear c21
          by_cases c22 : (ji20) < (l0.length : Int)
          ·rw [if_pos c22] at H
           have c22b0 : decide ((ji20) < (l0.length : Int)) = true := decide_eq_true c22
           clear c22
           by_cases c23 : (rd l0 (ji20)) < 128
           ·rw [if_pos c23] at H
            have c23b0 : decide ((rd l0 (ji20)) < 128) = true := decide_eq_true c23
            clear c23
            obtain ⟨y123, hy123⟩ : ∃ y_ : List Int, y_ = (([] : List Int)) := ⟨_, rfl⟩
            replace H : (some (0, y123, 0, false)) = some (r1, r2, r3, r4) := by first | (rw [hy123]; with_reducible exact H) | (have H2_ := (Option.bind_some _ _).symm.trans H; rw [hy123]; with_reducible exact H2_) | (have H2_ := (Option.bind_some _ _).symm.trans H; with_reducible exact H2_) | with_reducible exact H | (rw [hy123]; exact H) | exact H
            have Ny123 := zA hy123
            clear hy123
            simp only [Option.some.injEq, Prod.mk.injEq] at H
            obtain ⟨rfl, rfl, rfl, rfl⟩ := H
            have p118 : 0 ≤ ((ji12) : Int) := of_decide_eq_true zq4
            have q118 : (ji12) < (l0.length : Int) := of_decide_eq_true zq4
            obtain ⟨ad118, e118, hx118_0⟩ := Kd.at_int HR0.out (ji12) p118 q118
            cases e118
            replace p118 := eq_true p118
            replace q118 := eq_true q118
            have p122 : 0 ≤ ((ji20) : Int) := of_decide_eq_true zq4
            have q122 : (ji20) < (l0.length : Int) := of_decide_eq_true zq4
            obtain ⟨ad122, e122, hx122_0⟩ := Kd.at_int HR0.out (ji20) p122 q122
            obtain rfl : ad118 = ad122 := (by injection e122)
            replace p122 := eq_true p122
            replace q122 := eq_true q122
            go_enter Try.func117, Try.ntmps117
            go_wp2_with (first | ((with_reducible refine gate_dst (N := 51) rfl ?_); (try (refine gate_guard zq121 ?_; dsimp only)); refine Kd.R_lit (Kd.int .u8) _ 5 ?hg (N := 51) ?hd (xs := ([] : List Int)) (inner := []) (ok := fun _ => True) (okp := fun _ => True) ?hr ?hp (fun _ hk => hk) trivial (Below.refl _ _) (Nat.le_refl _) zq48 ?_; (case hd => rfl); (case hg => rfl); (case hr => first | (go_simp; done) | (go_simp; rfl)); (case hp => exact (Reps.none _ _)); intro v124 w24 ho25 hb hg_ hnew_; clear hg_ hnew_; (first | rw [← Ny123.out] at ho25 | (simp only [Int.reduceToNat] at ho25; rw [← Ny123.out] at ho25)); have HO125 := zA (Kd.R_lower ho25 (below_size zq0)); replace HB := zA (below_step zq0 hb); clear hb ho25))
            refine bodyPost_ret (results_list (rs := [.tmp 4, .tmp 5, .tmp 6, .tmp 7]) rfl zq48 (.tmp (.tmp (.tmp (.tmp .nil))))) rfl ?_
            exact ⟨_, by first | rfl | (simp [errW_none, errW_some] <;> rfl) | (simp only [← hji12, ← hji20]; first | rfl | (simp [errW_none, errW_some] <;> rfl)) | (simp [*, errW_none, errW_some] <;> rfl), by (with_reducible repeat (first | apply Kd.R_alloc | apply Kd.R_drewN | apply Kd.R_drew)); exact HO125.out, by repeat (first | (with_reducible first | exact HB.out | apply below_alloc | apply pw_below_drewN | apply below_drew1) | exact HB.out)⟩
           ·rw [if_neg c23] at H
            have c23b0 : decide ((rd l0 (ji20)) < 128) = false := decide_eq_false c23
            clear c23
            by_cases c26 : (wrap64 (rd l0 (ji20))) > 250
            ·rw [if_pos c26] at H
             have c26b0 : decide (250 < (wrap64 (rd l0 (ji20)))) = true := decide_eq_true c26
             clear c26
             obtain ⟨y127, hy127⟩ : ∃ y_ : List Int, y_ = (([] : List Int)) := ⟨_, rfl⟩
             replace H : (some (0, y127, 0, false)) = some (r1, r2, r3, r4) := by first | (rw [hy127]; with_reducible exact H) | (have H2_ := (Option.bind_some _ _).symm.trans H; rw [hy127]; with_reducible exact H2_) | (have H2_ := (Option.bind_some _ _).symm.trans H; with_reducible exact H2_) | with_reducible exact H | (rw [hy127]; exact H) | exact H
             have Ny127 := zA hy127
             clear hy127
             simp only [Option.some.injEq, Prod.mk.injEq] at H
             obtain ⟨rfl, rfl, rfl, rfl⟩ := H
             have p118 : 0 ≤ ((ji12) : Int) := of_decide_eq_true zq4
             have q118 : (ji12) < (l0.length : Int) := of_decide_eq_true zq4
             obtain ⟨ad118, e118, hx118_0⟩ := Kd.at_int HR0.out (ji12) p118 q118
             cases e118
             replace p118 := eq_true p118
             replace q118 := eq_true q118
             have p122 : 0 ≤ ((ji20) : Int) := of_decide_eq_true zq4
             have q122 : (ji20) < (l0.length : Int) := of_decide_eq_true zq4
             obtain ⟨ad122, e122, hx122_0⟩ := Kd.at_int HR0.out (ji20) p122 q122
             obtain rfl : ad118 = ad122 := (by injection e122)
             replace p122 := eq_true p122
             replace q122 := eq_true q122
             have p126 : 0 ≤ ((ji20) : Int) := of_decide_eq_true zq4
             have q126 : (ji20) < (l0.length : Int) := of_decide_eq_true zq4
             obtain ⟨ad126, e126, hx126_0⟩ := Kd.at_int HR0.out (ji20) p126 q126
             obtain rfl : ad118 = ad126 := (by injection e126)
             replace p126 := eq_true p126
             replace q126 := eq_true q126
             go_enter Try.func117, Try.ntmps117
             go_wp2_with (first | ((with_reducible refine gate_dst (N := 69) rfl ?_); (try (refine gate_guard zq121 ?_; dsimp only)); refine Kd.R_lit (Kd.int .u8) _ 5 ?hg (N := 69) ?hd (xs := ([] : List Int)) (inner := []) (ok := fun _ => True) (okp := fun _ => True) ?hr ?hp (fun _ hk => hk) trivial (Below.refl _ _) (Nat.le_refl _) zq48 ?_; (case hd => rfl); (case hg => rfl); (case hr => first | (go_simp; done) | (go_simp; rfl)); (case hp => exact (Reps.none _ _)); intro v128 w27 ho28 hb hg_ hnew_; clear hg_ hnew_; (first | rw [← Ny127.out] at ho28 | (simp only [Int.reduceToNat] at ho28; rw [← Ny127.out] at ho28)); have HO129 := zA (Kd.R_lower ho28 (below_size zq0)); replace HB := zA (below_step zq0 hb); clear hb ho28))
             refine bodyPost_ret (results_list (rs := [.tmp 4, .tmp 5, .tmp 6, .tmp 7]) rfl zq48 (.tmp (.tmp (.tmp (.tmp .nil))))) rfl ?_
             exact ⟨_, by first | rfl | (simp [errW_none, errW_some] <;> rfl) | (simp only [← hji12, ← hji20]; first | rfl | (simp [errW_none, errW_some] <;> rfl)) | (simp [*, errW_none, errW_some] <;> rfl), by (with_reducible repeat (first | apply Kd.R_alloc | apply Kd.R_drewN | apply Kd.R_drew)); exact HO129.out, by repeat (first | (with_reducible first | exact HB.out | apply below_alloc | apply pw_below_drewN | apply below_drew1) | exact HB.out)⟩
            ·rw [if_neg c26] at H
             have c26b0 : decide (250 < (wrap64 (rd l0 (ji20)))) = false := decide_eq_false c26
             clear c26
             by_cases c29 : (wrap64 (rd l0 (ji20))) > (wrap64 ((l0.length : Int) - (wrap64 ((ji20) + 1))))
             ·rw [if_pos c29] at H
              have c29b0 : decide ((wrap64 ((l0.length : Int) - (wrap64 ((ji20) + 1)))) < (wrap64 (rd l0 (ji20)))) = true := decide_eq_true c29
              clear c29
              obtain ⟨y130, hy130⟩ : ∃ y_ : List Int, y_ = (([] : List Int)) := ⟨_, rfl⟩
              replace H : (some (0, y130, 0, false)) = some (r1, r2, r3, r4) := by first | (rw [hy130]; with_reducible exact H) | (have H2_ := (Option.bind_some _ _).symm.trans H; rw [hy130]; with_reducible exact H2_) | (have H2_ := (Option.bind_some _ _).symm.trans H; with_reducible exact H2_) | with_reducible exact H | (rw [hy130]; exact H) | exact H
              have Ny130 := zA hy130
              clear hy130
              simp only [Option.some.injEq, Prod.mk.injEq] at H
              obtain ⟨rfl, rfl, rfl, rfl⟩ := H
              have p118 : 0 ≤ ((ji12) : Int) := of_decide_eq_true zq4
              have q118 : (ji12) < (l0.length : Int) := of_decide_eq_true zq4
              obtain ⟨ad118, e118, hx118_0⟩ := Kd.at_int HR0.out (ji12) p118 q118
              cases e118
              replace p118 := eq_true p118
              replace q118 := eq_true q118
              have p122 : 0 ≤ ((ji20) : Int) := of_decide_eq_true zq4
              have q122 : (ji20) < (l0.length : Int) := of_decide_eq_true zq4
              obtain ⟨ad122, e122, hx122_0⟩ := Kd.at_int HR0.out (ji20) p122 q122
              obtain rfl : ad118 = ad122 := (by injection e122)
              replace p122 := eq_true p122
              replace q122 := eq_true q122
              have p126 : 0 ≤ ((ji20) : Int) := of_decide_eq_true zq4
              have q126 : (ji20) < (l0.length : Int) := of_decide_eq_true zq4
              obtain ⟨ad126, e126, hx126_0⟩ := Kd.at_int HR0.out (ji20) p126 q126
              obtain rfl : ad118 = ad126 := (by injection e126)
              replace p126 := eq_true p126
              replace q126 := eq_true q126
              go_enter Try.func117, Try.ntmps117
              go_wp2_with (first | ((with_reducible refine gate_dst (N := 69) rfl ?_); (try (refine gate_guard zq121 ?_; dsimp only)); refine Kd.R_lit (Kd.int .u8) _ 5 ?hg (N := 69) ?hd (xs := ([] : List Int)) (inner := []) (ok := fun _ => True) (okp := fun _ => True) ?hr ?hp (fun _ hk => hk) trivial (Below.refl _ _) (Nat.le_refl _) zq48 ?_; (case hd => rfl); (case hg => rfl); (case hr => first | (go_simp; done) | (go_simp; rfl)); (case hp => exact (Reps.none _ _)); intro v131 w30 ho31 hb hg_ hnew_; clear hg_ hnew_; (first | rw [← Ny130.out] at ho31 | (simp only [Int.reduceToNat] at ho31; rw [← Ny130.out] at ho31)); have HO132 := zA (Kd.R_lower ho31 (below_size zq0)); replace HB := zA (below_step zq0 hb); clear hb ho31))
              refine bodyPost_ret (results_list (rs := [.tmp 4, .tmp 5, .tmp 6, .tmp 7]) rfl zq48 (.tmp (.tmp (.tmp (.tmp .nil))))) rfl ?_
              exact ⟨_, by first | rfl | (simp [errW_none, errW_some] <;> rfl) | (simp only [← hji12, ← hji20]; first | rfl | (simp [errW_none, errW_some] <;> rfl)) | (simp [*, errW_none, errW_some] <;> rfl), by (with_reducible repeat (first | apply Kd.R_alloc | apply Kd.R_drewN | apply Kd.R_drew)); exact HO132.out, by repeat (first | (with_reducible first | exact HB.out | apply below_alloc | apply pw_below_drewN | apply below_drew1) | exact HB.out)⟩
             ·rw [if_neg c29] at H
              have c29b0 : decide ((wrap64 ((l0.length : Int) - (wrap64 ((ji20) + 1)))) < (wrap64 (rd l0 (ji20)))) = false := decide_eq_false c29
              clear c29
              by_cases c32 : 0 ≤ a1
              ·rw [if_pos c32] at H
               have c32b0 : decide (0 ≤ a1) = true := decide_eq_true c32
               clear c32
               by_cases c33 : a1 < (l0.length : Int)
               ·rw [if_pos c33] at H
                have c33b0 : decide (a1 < (l0.length : Int)) = true := decide_eq_true c33
                clear c33
                obtain ⟨y134, hy134⟩ : ∃ y_ : List Int, y_ = (([] : List Int)) := ⟨_, rfl⟩
                replace H : (if 0 ≤ (wrap64 ((ji20) + 1)) then (if (wrap64 ((ji20) + 1)) ≤ (wrap64 ((wrap64 ((ji20) + 1)) + (wrap64 (rd l0 (ji20))))) then (if (wrap64 ((wrap64 ((ji20) + 1)) + (wrap64 (rd l0 (ji20))))) ≤ (l0.length : Int) then (if y134.length + ((l0.take ((wrap64 ((wrap64 ((ji20) + 1)) + (wrap64 (rd l0 (ji20))))) : Int).toNat).drop ((wrap64 ((ji20) + 1)) : Int).toNat).length < 140737488355328 then (some (wrap64 (rd l0 a1), (y134 ++ ((l0.take ((wrap64 ((wrap64 ((ji20) + 1)) + (wrap64 (rd l0 (ji20))))) : Int).toNat).drop ((wrap64 ((ji20) + 1)) : Int).toNat)), wrap64 ((wrap64 ((ji20) + 1)) + (wrap64 (rd l0 (ji20)))), true)) else (none)) else (none)) else (none)) else (none)) = some (r1, r2, r3, r4) := by first | (rw [hy134]; with_reducible exact H) | (have H2_ := (Option.bind_some _ _).symm.trans H; rw [hy134]; with_reducible exact H2_) | (have H2_ := (Option.bind_some _ _).symm.trans H; with_reducible exact H2_) | with_reducible exact H | (rw [hy134]; exact H) | exact H
                have Ny134 := zA hy134
                clear hy134
                obtain ⟨ji34, hji34⟩ : ∃ j_ : Int, (wrap64 ((ji20) + 1)) = j_ := ⟨_, rfl⟩
                replace H : (if 0 ≤ (ji34) then (if (ji34) ≤ (wrap64 ((ji34) + (wrap64 (rd l0 (ji20))))) then (if (wrap64 ((ji34) + (wrap64 (rd l0 (ji20))))) ≤ (l0.length : Int) then (if y134.length + ((l0.take ((wrap64 ((ji34) + (wrap64 (rd l0 (ji20))))) : Int).toNat).drop ((ji34) : Int).toNat).length < 140737488355328 then (some (wrap64 (rd l0 a1), (y134 ++ ((l0.take ((wrap64 ((ji34) + (wrap64 (rd l0 (ji20))))) : Int).toNat).drop ((ji34) : Int).toNat)), wrap64 ((ji34) + (wrap64 (rd l0 (ji20)))), true)) else (none)) else (none)) else (none)) else (none)) = some (r1, r2, r3, r4) := by first | (rw [hji34] at H; exact H) | (simp only [hji34] at H ⊢; exact H)
                (try rw [hji34] at c29b0)
                have hji34w : (IntKind.i64.wrap ((ji20) + 1)) = ji34 := (i64_w _).trans hji34
                by_cases c35 : 0 ≤ (ji34)
                ·rw [if_pos c35] at H
                 have c35b0 := eq_true c35
                 have c35b1 : decide (0 ≤ (ji34)) = true := decide_eq_true c35
                 clear c35
                 by_cases c36 : (ji34) ≤ (wrap64 ((ji34) + (wrap64 (rd l0 (ji20)))))
                 ·rw [if_pos c36] at H
                  have c36b0 := eq_true c36
                  have c36b1 : decide ((ji34) ≤ (wrap64 ((ji34) + (wrap64 (rd l0 (ji20)))))) = true := decide_eq_true c36
                  by_cases c37 : (wrap64 ((ji34) + (wrap64 (rd l0 (ji20))))) ≤ (l0.length : Int)
                  ·rw [if_pos c37] at H
                   have c37b0 := eq_true c37
                   have c37b1 : decide ((wrap64 ((ji34) + (wrap64 (rd l0 (ji20))))) ≤ (l0.length : Int)) = true := decide_eq_true c37
                   by_cases c38 : y134.length + ((l0.take ((wrap64 ((ji34) + (wrap64 (rd l0 (ji20))))) : Int).toNat).drop ((ji34) : Int).toNat).length < 140737488355328
                   ·rw [if_pos c38] at H
                    have LMc38 := zA c38
                    clear c38
                    obtain ⟨y138, hy138⟩ : ∃ y_ : List Int, y_ = (y134 ++ ((l0.take ((wrap64 ((ji34) + (wrap64 (rd l0 (ji20))))) : Int).toNat).drop ((ji34) : Int).toNat)) := ⟨_, rfl⟩
                    replace H : (some (wrap64 (rd l0 a1), y138, wrap64 ((ji34) + (wrap64 (rd l0 (ji20)))), true)) = some (r1, r2, r3, r4) := by first | (rw [hy138]; with_reducible exact H) | (have H2_ := (Option.bind_some _ _).symm.trans H; rw [hy138]; with_reducible exact H2_) | (have H2_ := (Option.bind_some _ _).symm.trans H; with_reducible exact H2_) | with_reducible exact H | (rw [hy138]; exact H) | exact H
                    have Ny138 := zA hy138
                    clear hy138
                    simp only [Option.some.injEq, Prod.mk.injEq] at H
                    obtain ⟨rfl, rfl, rfl, rfl⟩ := H
                    have p118 : 0 ≤ ((ji12) : Int) := of_decide_eq_true zq4
                    have q118 : (ji12) < (l0.length : Int) := of_decide_eq_true zq4
                    obtain ⟨ad118, e118, hx118_0⟩ := Kd.at_int HR0.out (ji12) p118 q118
                    cases e118
                    replace p118 := eq_true p118
                    replace q118 := eq_true q118
                    have p122 : 0 ≤ ((ji20) : Int) := of_decide_eq_true zq4
                    have q122 : (ji20) < (l0.length : Int) := of_decide_eq_true zq4
                    obtain ⟨ad122, e122, hx122_0⟩ := Kd.at_int HR0.out (ji20) p122 q122
                    obtain rfl : ad118 = ad122 := (by injection e122)
                    replace p122 := eq_true p122
                    replace q122 := eq_true q122
                    have p126 : 0 ≤ ((ji20) : Int) := of_decide_eq_true zq4
                    have q126 : (ji20) < (l0.length : Int) := of_decide_eq_true zq4
                    obtain ⟨ad126, e126, hx126_0⟩ := Kd.at_int HR0.out (ji20) p126 q126
                    obtain rfl : ad118 = ad126 := (by injection e126)
                    replace p126 := eq_true p126
                    replace q126 := eq_true q126
                    go_enter Try.func117, Try.ntmps117
                    try go_wp2
                    have n0_ := zA (below_drew1 HB.out)
                    clear HB
                    have HB := n0_
                    clear n0_
                    have p133 : 0 ≤ (a1 : Int) := of_decide_eq_true zq4
                    have q133 : a1 < (l0.length : Int) := of_decide_eq_true zq4
                    obtain ⟨ad133, e133, hx133_0⟩ := Kd.at_int HR0.out a1 p133 q133
                    have hw133_0 := hx133_0
                    obtain rfl : ad118 = ad133 := (by injection e133)
                    replace hx133_0 := (HB.out.cell (World.block_lt_of_cell? w _ hx133_0)).trans hx133_0
                    replace p133 := eq_true p133
                    replace q133 := eq_true q133
                    obtain ⟨i040, hi040, _, hsz40, _⟩ := info_parts info5
                    obtain ⟨A40, hcut40, hA40, hC40⟩ := print_mid_of (P := Try.prog) (Value.int .u8) 0 22 5 .i64 .i64 Try.underlying22 hi040 hsz40 (some ad118) c0 l0 (ji34) (wrap64 ((ji34) + (wrap64 (rd l0 (ji20))))) (of_decide_eq_true zq4) zq120 (of_decide_eq_true zq4) HC0.out
                    have HR137 := zA (Kd.C_of_reads (h1 := fun _ => rfl) (hA40 _ (Kd.reads_of_C HR0.out)))
                    have HC137 := zA hC40
                    clear hA40 hC40 hi040 hsz40
                    refine start_ (n := 20) (S := fun w' => w'.cell? (ad118.add (a1).toNat) = some (.int .u8 (rd l0 a1))) (ds := []) #[false, false, false, false, false, false, false, false, false, false, false, false, false, false, false, false, false, false, false, false] (by kernel_rfl) rfl rfl (((HB.out.cell (World.block_lt_of_cell? w _ hw133_0)).trans hw133_0)) (fun hHeld => ?_); refine with_tabW spec_GetTlv.tab12 spec_GetTlv.bits12 (fun HT_ HW_ => ?_)
                    generalize w.drew = w39 at HB HR137 hx133_0 hHeld ⊢
                    refine pure_ (i := 0) (N := some 70) (v := ?_) (a' := ?_) #[true, false, false, false, false, false, false, false, false, false, false, false, false, false, false, false, false, false, false, false] rfl rfl (any_of HT_.out (by kernel_rfl)) (fun _ _ _ h => h) (Or.inl ⟨by rfl, ?_⟩) ?_ ?_
                    rotate_left
                    ·intro w'
                     go_simp
                     with_reducible rfl
                    rotate_left
                    ·simp only [Act.put, List.setIfInBounds_toArray, List.set_cons_zero, List.set_cons_succ, i64_w, i32_w]
                     rfl
                    refine pure_ (i := 1) (N := some 71) (v := ?_) (a' := ?_) #[true, true, false, false, false, false, false, false, false, false, false, false, false, false, false, false, false, false, false, false] rfl rfl (any_of HT_.out (by kernel_rfl)) (fun _ _ _ h => h) (Or.inl ⟨by rfl, ?_⟩) ?_ ?_
                    rotate_left
                    ·intro w'
                     go_simp
                     with_reducible rfl
                    rotate_left
                    ·simp only [Act.put, List.setIfInBounds_toArray, List.set_cons_zero, List.set_cons_succ, i64_w, i32_w]
                     rfl
                    refine pure_ (i := 2) (N := some 72) (v := ?_) (a' := ?_) #[true, true, true, false, false, false, false, false, false, false, false, false, false, false, false, false, false, false, false, false] rfl rfl (any_of HT_.out (by kernel_rfl)) (fun _ _ _ h => h) (Or.inl ⟨by rfl, ?_⟩) ?_ ?_
                    rotate_left
                    ·intro w'
                     go_simp
                     with_reducible rfl
                    rotate_left
                    ·simp only [Act.put, List.setIfInBounds_toArray, List.set_cons_zero, List.set_cons_succ, i64_w, i32_w]
                     rfl
                    refine pure_ (i := 6) (N := some 76) (v := ?_) (a' := ?_) #[true, true, true, false, false, false, true, false, false, false, false, false, false, false, false, false, false, false, false, false] rfl rfl (any_of HT_.out (by kernel_rfl)) (fun _ _ _ h => h) (Or.inl ⟨by rfl, ?_⟩) ?_ ?_
                    rotate_left
                    ·intro w'
                     go_simp
                     with_reducible rfl
                    rotate_left
                    ·simp only [Act.put, List.setIfInBounds_toArray, List.set_cons_zero, List.set_cons_succ, i64_w, i32_w]
                     rfl
                    refine pure_ (i := 7) (N := some 77) (v := ?_) (a' := ?_) #[true, true, true, false, false, false, true, true, false, false, false, false, false, false, false, false, false, false, false, false] rfl rfl (any_of HT_.out (by kernel_rfl)) (fun _ _ _ h => h) (Or.inl ⟨by rfl, ?_⟩) ?_ ?_
                    rotate_left
                    ·intro w'
                     go_simp
                     with_reducible rfl
                    rotate_left
                    ·simp only [Act.put, List.setIfInBounds_toArray, List.set_cons_zero, List.set_cons_succ, i64_w, i32_w]
                     rfl
                    refine pure_ (i := 8) (N := some 78) (v := ?_) (a' := ?_) #[true, true, true, false, false, false, true, true, true, false, false, false, false, false, false, false, false, false, false, false] rfl rfl (any_of HT_.out (by kernel_rfl)) (fun _ _ _ h => h) (Or.inl ⟨by rfl, ?_⟩) ?_ ?_
                    rotate_left
                    ·intro w'
                     go_simp
                     with_reducible rfl
                    rotate_left
                    ·simp only [Act.put, List.setIfInBounds_toArray, List.set_cons_zero, List.set_cons_succ, i64_w, i32_w]
                     rfl
                    refine pure_ (i := 9) (N := some 79) (v := ?_) (a' := ?_) #[true, true, true, false, false, false, true, true, true, true, false, false, false, false, false, false, false, false, false, false] rfl rfl (any_of HT_.out (by kernel_rfl)) (fun _ _ _ h => h) (Or.inl ⟨by rfl, ?_⟩) ?_ ?_
                    rotate_left
                    ·intro w'
                     go_simp
                     with_reducible rfl
                    rotate_left
                    ·simp only [Act.put, List.setIfInBounds_toArray, List.set_cons_zero, List.set_cons_succ, i64_w, i32_w]
                     rfl
                    refine pure_ (i := 10) (N := some 80) (v := ?_) (a' := ?_) #[true, true, true, false, false, false, true, true, true, true, true, false, false, false, false, false, false, false, false, false] rfl rfl (any_of HT_.out (by kernel_rfl)) (fun _ _ _ h => h) (Or.inl ⟨by rfl, ?_⟩) ?_ ?_
                    rotate_left
                    ·intro w'
                     go_simp
                     with_reducible rfl
                    rotate_left
                    ·simp only [Act.put, List.setIfInBounds_toArray, List.set_cons_zero, List.set_cons_succ, i64_w, i32_w]
                     rfl
                    refine pure_ (i := 11) (N := some 81) (v := ?_) (a' := ?_) #[true, true, true, false, false, false, true, true, true, true, true, true, false, false, false, false, false, false, false, false] rfl rfl (any_of HT_.out (by kernel_rfl)) (fun _ _ _ h => h) (Or.inl ⟨by rfl, ?_⟩) ?_ ?_
                    rotate_left
                    ·intro w'
                     go_simp
                     with_reducible rfl
                    rotate_left
                    ·simp only [Act.put, List.setIfInBounds_toArray, List.set_cons_zero, List.set_cons_succ, i64_w, i32_w]
                     rfl
                    refine pure_ (i := 13) (N := some 83) (v := ?_) (a' := ?_) #[true, true, true, false, false, false, true, true, true, true, true, true, false, true, false, false, false, false, false, false] rfl rfl (any_of HT_.out (by kernel_rfl)) (fun _ _ _ h => h) (Or.inl ⟨by rfl, ?_⟩) ?_ ?_
                    rotate_left
                    ·intro w'
                     go_simp
                     with_reducible rfl
                    rotate_left
                    ·simp only [Act.put, List.setIfInBounds_toArray, List.set_cons_zero, List.set_cons_succ, i64_w, i32_w]
                     rfl
                    refine pure_ (i := 14) (N := some 84) (v := ?_) (a' := ?_) #[true, true, true, false, false, false, true, true, true, true, true, true, false, true, true, false, false, false, false, false] rfl rfl (any_of HT_.out (by kernel_rfl)) (fun _ _ _ h => h) (Or.inl ⟨by rfl, ?_⟩) ?_ ?_
                    rotate_left
                    ·intro w'
                     go_simp
                     with_reducible rfl
                    rotate_left
                    ·simp only [Act.put, List.setIfInBounds_toArray, List.set_cons_zero, List.set_cons_succ, i64_w, i32_w]
                     rfl
                    refine pure_ (i := 15) (N := some 85) (v := ?_) (a' := ?_) #[true, true, true, false, false, false, true, true, true, true, true, true, false, true, true, true, false, false, false, false] rfl rfl (any_of HT_.out (by kernel_rfl)) (fun _ _ _ h => h) (Or.inl ⟨by rfl, ?_⟩) ?_ ?_
                    rotate_left
                    ·intro w'
                     go_simp
                     with_reducible rfl
                    rotate_left
                    ·simp only [Act.put, List.setIfInBounds_toArray, List.set_cons_zero, List.set_cons_succ, i64_w, i32_w]
                     rfl
                    refine take_ (i := 3) (N := some 73) (v := ?_) (a' := ?_) #[true, true, true, true, false, false, true, true, true, true, true, true, false, true, true, true, false, false, false, false] rfl rfl (take_ofW HT_.out HW_.out (by kernel_rfl)) (fun _ _ _ h => h) (Or.inl ⟨by rfl, ?_⟩) hHeld ?_ ?_
                    rotate_left
                    ·intro w' s0
                     go_simp
                     with_reducible rfl
                    rotate_left
                    ·simp only [Act.put, List.setIfInBounds_toArray, List.set_cons_zero, List.set_cons_succ, i64_w, i32_w]
                     rfl
                    refine pure_ (i := 4) (N := some 74) (v := ?_) (a' := ?_) #[true, true, true, true, true, false, true, true, true, true, true, true, false, true, true, true, false, false, false, false] rfl rfl (any_of HT_.out (by kernel_rfl)) (fun _ _ _ h => h) (Or.inl ⟨by rfl, ?_⟩) ?_ ?_
                    rotate_left
                    ·intro w'
                     go_simp
                     with_reducible rfl
                    rotate_left
                    ·simp only [Act.put, List.setIfInBounds_toArray, List.set_cons_zero, List.set_cons_succ, i64_w, i32_w]
                     rfl
                    refine one_ (i := 5) (N := some 75) #[true, true, true, true, true, true, true, true, true, true, true, true, false, true, true, true, false, false, false, false] rfl rfl (one_of HT_.out (by kernel_rfl)) zq55 (fun K hK => ?_)
                    refine Kd.R_lit_step (Kd.int .u8) _ 5 ?hg (N := 75) ?hd (xs := ([] : List Int)) (inner := []) (ok := fun _ => True) (okp := fun _ => True) ?hr ?hp (fun _ hk => hk) trivial (Below.refl _ _) (Nat.le_refl _) zq48 ?_; (case hd => rfl); (case hg => rfl); (case hr => first | (go_simp; done) | (go_simp; rfl)); (case hp => exact (Reps.none _ _))
                    intro v135 w41 ho42 hb hg_ hnew_
                    clear hg_ hnew_
                    (first | rw [← Ny134.out] at ho42 | (simp only [Int.reduceToNat] at ho42; rw [← Ny134.out] at ho42))
                    have n0_ := zA (Kd.R_lower ho42 (below_size zq0))
                    have n1_ := zA (below_step zq0 hb)
                    clear HB
                    have HO136 := n0_
                    have HB := n1_
                    clear n0_ n1_
                    clear hb ho42
                    refine hK.out _ _ (((HB.out.cell (World.block_lt_of_cell? w _ hw133_0)).trans hw133_0)) (fun hHeld => ?_)
                    clear hK K
                    refine norm_ (a' := ?_) ?_ ?_
                    rotate_left
                    ·show Act.put _ (some 75) _ = _
                     simp only [Act.put, List.setIfInBounds_toArray, List.set_cons_zero, List.set_cons_succ, i64_w, i32_w]
                     rfl
                    refine one_ (i := 12) (N := some 82) #[true, true, true, true, true, true, true, true, true, true, true, true, true, true, true, true, false, false, false, false] rfl rfl (one_of HT_.out (by kernel_rfl)) zq55 (fun K hK => ?_)
                    refine Kd.R_append_rows_step (Kd.int .u8) (w0 := w) w.heap.size zq121 (.tmp 75) (.tmp 81) 22 5 (.int .u8 0) 1 rfl Try.underlying22 info5 rfl zq55 zq128 v135 y134 ((l0.take ((wrap64 ((ji34) + (wrap64 (rd l0 (ji20))))) : Int).toNat).drop ((ji34) : Int).toNat) _ _ _ (fun _ => True) (fun _ => False) rfl rfl ?aO ?aR (fun _ _ h => h) (fun _ h => h.elim) ?aF ?aB ?aS ?aL ?_
                    (case aR => first | (rw [← show ((l0.take ((wrap64 ((ji34) + (wrap64 (rd l0 (ji20))))) : Int).toNat).drop ((ji34) : Int).toNat).length = ((wrap64 ((ji34) + (wrap64 (rd l0 (ji20))))).toNat - (ji34).toNat) from zq131]; repeat (first | exact (Kd.C_below HR137.out HB.out) | (with_reducible refine Kd.C_alloc ?_ _) | (with_reducible refine Kd.C_drewN ?_ _) | (with_reducible refine Kd.C_drew ?_))) | (repeat (first | exact (Kd.C_below HR137.out HB.out) | (with_reducible refine Kd.C_alloc ?_ _) | (with_reducible refine Kd.C_drewN ?_ _) | (with_reducible refine Kd.C_drew ?_))))
                    (case aB => exact zq0)
                    (case aF => exact (fun _ _ => trivial))
                    (case aO => exact (by (with_reducible repeat (first | apply Kd.R_alloc | apply Kd.R_drewN | apply Kd.R_drew)); exact HO136.out))
                    (case aS => exact (below_size zq0))
                    (case aL => have := LMc38.out; have hlx_ := (show ((l0.take ((wrap64 ((ji34) + (wrap64 (rd l0 (ji20))))) : Int).toNat).drop ((ji34) : Int).toNat).length = ((wrap64 ((ji34) + (wrap64 (rd l0 (ji20))))).toNat - (ji34).toNat) from zq131); omega)
                    intro v139 w43 ho hb hg hat
                    rw [← Ny138.out] at ho
                    have n0_ := zA (hb)
                    have n1_ := zA (ho)
                    clear HB
                    clear HO136
                    have HB := n0_
                    have HO140 := n1_
                    clear n0_ n1_
                    clear ho hb hg hat
                    refine hK.out _ _ (((HB.out.cell (World.block_lt_of_cell? w _ hw133_0)).trans hw133_0)) (fun hHeld => ?_)
                    clear hK K
                    refine norm_ (a' := ?_) ?_ ?_
                    rotate_left
                    ·show Act.put _ (some 82) _ = _
                     simp only [Act.put, List.setIfInBounds_toArray, List.set_cons_zero, List.set_cons_succ, i64_w, i32_w]
                     rfl
                    refine pure_ (i := 16) (N := some 4) (v := ?_) (a' := ?_) #[true, true, true, true, true, true, true, true, true, true, true, true, true, true, true, true, true, false, false, false] rfl rfl (any_of HT_.out (by kernel_rfl)) (fun _ _ _ h => h) (Or.inl ⟨by rfl, ?_⟩) ?_ ?_
                    rotate_left
                    ·intro w'
                     go_simp
                     with_reducible rfl
                    rotate_left
                    ·simp only [Act.put, List.setIfInBounds_toArray, List.set_cons_zero, List.set_cons_succ, i64_w, i32_w]
                     rfl
                    refine pure_ (i := 17) (N := some 5) (v := ?_) (a' := ?_) #[true, true, true, true, true, true, true, true, true, true, true, true, true, true, true, true, true, true, false, false] rfl rfl (any_of HT_.out (by kernel_rfl)) (fun _ _ _ h => h) (Or.inl ⟨by rfl, ?_⟩) ?_ ?_
                    rotate_left
                    ·intro w'
                     go_simp
                     with_reducible rfl
                    rotate_left
                    ·simp only [Act.put, List.setIfInBounds_toArray, List.set_cons_zero, List.set_cons_succ, i64_w, i32_w]
                     rfl
                    refine pure_ (i := 18) (N := some 6) (v := ?_) (a' := ?_) #[true, true, true, true, true, true, true, true, true, true, true, true, true, true, true, true, true, true, true, false] rfl rfl (any_of HT_.out (by kernel_rfl)) (fun _ _ _ h => h) (Or.inl ⟨by rfl, ?_⟩) ?_ ?_
                    rotate_left
                    ·intro w'
                     go_simp
                     with_reducible rfl
                    rotate_left
                    ·simp only [Act.put, List.setIfInBounds_toArray, List.set_cons_zero, List.set_cons_succ, i64_w, i32_w]
                     rfl
                    refine pure_ (i := 19) (N := some 7) (v := ?_) (a' := ?_) #[true, true, true, true, true, true, true, true, true, true, true, true, true, true, true, true, true, true, true, true] rfl rfl (any_of HT_.out (by kernel_rfl)) (fun _ _ _ h => h) (Or.inl ⟨by rfl, ?_⟩) ?_ ?_
                    rotate_left
                    ·intro w'
                     go_simp
                     with_reducible rfl
                    rotate_left
                    ·simp only [Act.put, List.setIfInBounds_toArray, List.set_cons_zero, List.set_cons_succ, i64_w, i32_w]
                     rfl
                    refine done_ (done_of HT_.out (by kernel_rfl)) ?_
                    try go_wp2
                    refine bodyPost_ret (results_list (rs := [.tmp 4, .tmp 5, .tmp 6, .tmp 7]) rfl zq48 (.tmp (.tmp (.tmp (.tmp .nil))))) rfl ?_
                    exact ⟨_, by first | rfl | (simp [errW_none, errW_some] <;> rfl) | (simp only [← hji12, ← hji20, ← hji34]; first | rfl | (simp [errW_none, errW_some] <;> rfl)) | (simp [*, errW_none, errW_some] <;> rfl), by (with_reducible repeat (first | apply Kd.R_alloc | apply Kd.R_drewN | apply Kd.R_drew)); exact HO140.out, by repeat (first | (with_reducible first | exact HB.out | apply below_alloc | apply pw_below_drewN | apply below_drew1) | exact HB.out)⟩
                   ·rw [if_neg c38] at H
                    exact absurd H zq48
                  ·rw [if_neg c37] at H
                   exact absurd H zq48
                 ·rw [if_neg c36] at H
                  exact absurd H zq48
                ·rw [if_neg c35] at H
                 exact absurd H zq48
               ·rw [if_neg c33] at H
                exact absurd H zq48
              ·rw [if_neg c32] at H
               exact absurd H zq48
          ·rw [if_neg c22] at H
           exact absurd H zq48
         ·rw [if_neg c21] at H
          exact absurd H zq48
       ·rw [if_neg c16] at H
        have c16b0 : ((wrap64 (rd l0 (ji12))) == 129) = false := beq_eq_false_iff_ne.mpr c16
        have c16b1 : ((wrap64 (rd l0 (ji12))) != 129) = true := bne_iff_ne.mpr c16
        obtain ⟨y141, hy141⟩ : ∃ y_ : List Int, y_ = (([] : List Int)) := ⟨_, rfl⟩
        replace H : (some (0, y141, 0, false)) = some (r1, r2, r3, r4) := by first | (rw [hy141]; with_reducible exact H) | (have H2_ := (Option.bind_some _ _).symm.trans H; rw [hy141]; with_reducible exact H2_) | (have H2_ := (Option.bind_some _ _).symm.trans H; with_reducible exact H2_) | with_reducible exact H | (rw [hy141]; exact H) | exact H
        have Ny141 := zA hy141
        clear hy141
        simp only [Option.some.injEq, Prod.mk.injEq] at H
        obtain ⟨rfl, rfl, rfl, rfl⟩ := H
        have p118 : 0 ≤ ((ji12) : Int) := of_decide_eq_true zq4
        have q118 : (ji12) < (l0.length : Int) := of_decide_eq_true zq4
        obtain ⟨ad118, e118, hx118_0⟩ := Kd.at_int HR0.out (ji12) p118 q118
        cases e118
        replace p118 := eq_true p118
        replace q118 := eq_true q118
        go_enter Try.func117, Try.ntmps117
        go_wp2_with (first | ((with_reducible refine gate_dst (N := 51) rfl ?_); (try (refine gate_guard zq121 ?_; dsimp only)); refine Kd.R_lit (Kd.int .u8) _ 5 ?hg (N := 51) ?hd (xs := ([] : List Int)) (inner := []) (ok := fun _ => True) (okp := fun _ => True) ?hr ?hp (fun _ hk => hk) trivial (Below.refl _ _) (Nat.le_refl _) zq48 ?_; (case hd => rfl); (case hg => rfl); (case hr => first | (go_simp; done) | (go_simp; rfl)); (case hp => exact (Reps.none _ _)); intro v142 w44 ho45 hb hg_ hnew_; clear hg_ hnew_; (first | rw [← Ny141.out] at ho45 | (simp only [Int.reduceToNat] at ho45; rw [← Ny141.out] at ho45)); have HO143 := zA (Kd.R_lower ho45 (below_size zq0)); replace HB := zA (below_step zq0 hb); clear hb ho45))
        refine bodyPost_ret (results_list (rs := [.tmp 4, .tmp 5, .tmp 6, .tmp 7]) rfl zq48 (.tmp (.tmp (.tmp (.tmp .nil))))) rfl ?_
        exact ⟨_, by first | rfl | (simp [errW_none, errW_some] <;> rfl) | (simp only [← hji12]; first | rfl | (simp [errW_none, errW_some] <;> rfl)) | (simp [*, errW_none, errW_some] <;> rfl), by (with_reducible repeat (first | apply Kd.R_alloc | apply Kd.R_drewN | apply Kd.R_drew)); exact HO143.out, by repeat (first | (with_reducible first | exact HB.out | apply below_alloc | apply pw_below_drewN | apply below_drew1) | exact HB.out)⟩
      ·rw [if_neg c15] at H
       have c15b0 : decide (127 < (wrap64 (rd l0 (ji12)))) = false := decide_eq_false c15
       clear c15
       by_cases c46 : (wrap64 (rd l0 (ji12))) > 250
       ·rw [if_pos c46] at H
        have c46b0 : decide (250 < (wrap64 (rd l0 (ji12)))) = true := decide_eq_true c46
        clear c46
        obtain ⟨y144, hy144⟩ : ∃ y_ : List Int, y_ = (([] : List Int)) := ⟨_, rfl⟩
        replace H : (some (0, y144, 0, false)) = some (r1, r2, r3, r4) := by first | (rw [hy144]; with_reducible exact H) | (have H2_ := (Option.bind_some _ _).symm.trans H; rw [hy144]; with_reducible exact H2_) | (have H2_ := (Option.bind_some _ _).symm.trans H; with_reducible exact H2_) | with_reducible exact H | (rw [hy144]; exact H) | exact H
        have Ny144 := zA hy144
        clear hy144
        simp only [Option.some.injEq, Prod.mk.injEq] at H
        obtain ⟨rfl, rfl, rfl, rfl⟩ := H
        have p118 : 0 ≤ ((ji12) : Int) := of_decide_eq_true zq4
        have q118 : (ji12) < (l0.length : Int) := of_decide_eq_true zq4
        obtain ⟨ad118, e118, hx118_0⟩ := Kd.at_int HR0.out (ji12) p118 q118
        cases e118
        replace p118 := eq_true p118
        replace q118 := eq_true q118
        go_enter Try.func117, Try.ntmps117
        go_wp2_with (first | ((with_reducible refine gate_dst (N := 69) rfl ?_); (try (refine gate_guard zq121 ?_; dsimp only)); refine Kd.R_lit (Kd.int .u8) _ 5 ?hg (N := 69) ?hd (xs := ([] : List Int)) (inner := []) (ok := fun _ => True) (okp := fun _ => True) ?hr ?hp (fun _ hk => hk) trivial (Below.refl _ _) (Nat.le_refl _) zq48 ?_; (case hd => rfl); (case hg => rfl); (case hr => first | (go_simp; done) | (go_simp; rfl)); (case hp => exact (Reps.none _ _)); intro v145 w47 ho48 hb hg_ hnew_; clear hg_ hnew_; (first | rw [← Ny144.out] at ho48 | (simp only [Int.reduceToNat] at ho48; rw [← Ny144.out] at ho48)); have HO146 := zA (Kd.R_lower ho48 (below_size zq0)); replace HB := zA (below_step zq0 hb); clear hb ho48))
        refine bodyPost_ret (results_list (rs := [.tmp 4, .tmp 5, .tmp 6, .tmp 7]) rfl zq48 (.tmp (.tmp (.tmp (.tmp .nil))))) rfl ?_
        exact ⟨_, by first | rfl | (simp [errW_none, errW_some] <;> rfl) | (simp only [← hji12]; first | rfl | (simp [errW_none, errW_some] <;> rfl)) | (simp [*, errW_none, errW_some] <;> rfl), by (with_reducible repeat (first | apply Kd.R_alloc | apply Kd.R_drewN | apply Kd.R_drew)); exact HO146.out, by repeat (first | (with_reducible first | exact HB.out | apply below_alloc | apply pw_below_drewN | apply below_drew1) | exact HB.out)⟩
       ·rw [if_neg c46] at H
        have c46b0 : decide (250 < (wrap64 (rd l0 (ji12)))) = false := decide_eq_false c46
        clear c46
        by_cases c49 : (wrap64 (rd l0 (ji12))) > (wrap64 ((l0.length : Int) - (wrap64 (a1 + 2))))
        ·rw [if_pos c49] at H
         have c49b0 : decide ((wrap64 ((l0.length : Int) - (wrap64 (a1 + 2)))) < (wrap64 (rd l0 (ji12)))) = true := decide_eq_true c49
         clear c49
         obtain ⟨y147, hy147⟩ : ∃ y_ : List Int, y_ = (([] : List Int)) := ⟨_, rfl⟩
         replace H : (some (0, y147, 0, false)) = some (r1, r2, r3, r4) := by first | (rw [hy147]; with_reducible exact H) | (have H2_ := (Option.bind_some _ _).symm.trans H; rw [hy147]; with_reducible exact H2_) | (have H2_ := (Option.bind_some _ _).symm.trans H; with_reducible exact H2_) | with_reducible exact H | (rw [hy147]; exact H) | exact H
         have Ny147 := zA hy147
         clear hy147
         simp only [Option.some.injEq, Prod.mk.injEq] at H
         obtain ⟨rfl, rfl, rfl, rfl⟩ := H
         have p118 : 0 ≤ ((ji12) : Int) := of_decide_eq_true zq4
         have q118 : (ji12) < (l0.length : Int) := of_decide_eq_true zq4
         obtain ⟨ad118, e118, hx118_0⟩ := Kd.at_int HR0.out (ji12) p118 q118
         cases e118
         replace p118 := eq_true p118
         replace q118 := eq_true q118
         go_enter Try.func117, Try.ntmps117
         go_wp2_with (first | ((with_reducible refine gate_dst (N := 69) rfl ?_); (try (refine gate_guard zq121 ?_; dsimp only)); refine Kd.R_lit (Kd.int .u8) _ 5 ?hg (N := 69) ?hd (xs := ([] : List Int)) (inner := []) (ok := fun _ => True) (okp := fun _ => True) ?hr ?hp (fun _ hk => hk) trivial (Below.refl _ _) (Nat.le_refl _) zq48 ?_; (case hd => rfl); (case hg => rfl); (case hr => first | (go_simp; done) | (go_simp; rfl)); (case hp => exact (Reps.none _ _)); intro v148 w50 ho51 hb hg_ hnew_; clear hg_ hnew_; (first | rw [← Ny147.out] at ho51 | (simp only [Int.reduceToNat] at ho51; rw [← Ny147.out] at ho51)); have HO149 := zA (Kd.R_lower ho51 (below_size zq0)); replace HB := zA (below_step zq0 hb); clear hb ho51))
         refine bodyPost_ret (results_list (rs := [.tmp 4, .tmp 5, .tmp 6, .tmp 7]) rfl zq48 (.tmp (.tmp (.tmp (.tmp .nil))))) rfl ?_
         exact ⟨_, by first | rfl | (simp [errW_none, errW_some] <;> rfl) | (simp only [← hji12]; first | rfl | (simp [errW_none, errW_some] <;> rfl)) | (simp [*, errW_none, errW_some] <;> rfl), by (with_reducible repeat (first | apply Kd.R_alloc | apply Kd.R_drewN | apply Kd.R_drew)); exact HO149.out, by repeat (first | (with_reducible first | exact HB.out | apply below_alloc | apply pw_below_drewN | apply below_drew1) | exact HB.out)⟩
        ·rw [if_neg c49] at H
         have c49b0 : decide ((wrap64 ((l0.length : Int) - (wrap64 (a1 + 2)))) < (wrap64 (rd l0 (ji12)))) = false := decide_eq_false c49
         clear c49
         by_cases c52 : 0 ≤ a1
         ·rw [if_pos c52] at H
          have c52b0 : decide (0 ≤ a1) = true := decide_eq_true c52
          clear c52
          by_cases c53 : a1 < (l0.length : Int)
          ·rw [if_pos c53] at H
           have c53b0 : decide (a1 < (l0.length : Int)) = true := decide_eq_true c53
           clear c53
           obtain ⟨y151, hy151⟩ : ∃ y_ : List Int, y_ = (([] : List Int)) := ⟨_, rfl⟩
           replace H : (if 0 ≤ (wrap64 (a1 + 2)) then (if (wrap64 (a1 + 2)) ≤ (wrap64 ((wrap64 (a1 + 2)) + (wrap64 (rd l0 (ji12))))) then (if (wrap64 ((wrap64 (a1 + 2)) + (wrap64 (rd l0 (ji12))))) ≤ (l0.length : Int) then (if y151.length + ((l0.take ((wrap64 ((wrap64 (a1 + 2)) + (wrap64 (rd l0 (ji12))))) : Int).toNat).drop ((wrap64 (a1 + 2)) : Int).toNat).length < 140737488355328 then (some (wrap64 (rd l0 a1), (y151 ++ ((l0.take ((wrap64 ((wrap64 (a1 + 2)) + (wrap64 (rd l0 (ji12))))) : Int).toNat).drop ((wrap64 (a1 + 2)) : Int).toNat)), wrap64 ((wrap64 (a1 + 2)) + (wrap64 (rd l0 (ji12)))), true)) else (none)) else (none)) else (none)) else (none)) = some (r1, r2, r3, r4) := by first | (rw [hy151]; with_reducible exact H) | (have H2_ := (Option.bind_some _ _).symm.trans H; rw [hy151]; with_reducible exact H2_) | (have H2_ := (Option.bind_some _ _).symm.trans H; with_reducible exact H2_) | with_reducible exact H | (rw [hy151]; exact H) | exact H
           have Ny151 := zA hy151
           clear hy151
           obtain ⟨ji54, hji54⟩ : ∃ j_ : Int, (wrap64 (a1 + 2)) = j_ := ⟨_, rfl⟩
           replace H : (if 0 ≤ (ji54) then (if (ji54) ≤ (wrap64 ((ji54) + (wrap64 (rd l0 (ji12))))) then (if (wrap64 ((ji54) + (wrap64 (rd l0 (ji12))))) ≤ (l0.length : Int) then (if y151.length + ((l0.take ((wrap64 ((ji54) + (wrap64 (rd l0 (ji12))))) : Int).toNat).drop ((ji54) : Int).toNat).length < 140737488355328 then (some (wrap64 (rd l0 a1), (y151 ++ ((l0.take ((wrap64 ((ji54) + (wrap64 (rd l0 (ji12))))) : Int).toNat).drop ((ji54) : Int).toNat)), wrap64 ((ji54) + (wrap64 (rd l0 (ji12)))), true)) else (none)) else (none)) else (none)) else (none)) = some (r1, r2, r3, r4) := by first | (rw [hji54] at H; exact H) | (simp only [hji54] at H ⊢; exact H)
           (try rw [hji54] at c49b0)
           have hji54w : (IntKind.i64.wrap (a1 + 2)) = ji54 := (i64_w _).trans hji54
           by_cases c55 : 0 ≤ (ji54)
           ·rw [if_pos c55] at H
            have c55b0 := eq_true c55
            have c55b1 : decide (0 ≤ (ji54)) = true := decide_eq_true c55
            clear c55
            by_cases c56 : (ji54) ≤ (wrap64 ((ji54) + (wrap64 (rd l0 (ji12)))))
            ·rw [if_pos c56] at H
             have c56b0 := eq_true c56
             have c56b1 : decide ((ji54) ≤ (wrap64 ((ji54) + (wrap64 (rd l0 (ji12)))))) = true := decide_eq_true c56
             by_cases c57 : (wrap64 ((ji54) + (wrap64 (rd l0 (ji12))))) ≤ (l0.length : Int)
             ·rw [if_pos c57] at H
              have c57b0 := eq_true c57
              have c57b1 : decide ((wrap64 ((ji54) + (wrap64 (rd l0 (ji12))))) ≤ (l0.length : Int)) = true := decide_eq_true c57
              by_cases c58 : y151.length + ((l0.take ((wrap64 ((ji54) + (wrap64 (rd l0 (ji12))))) : Int).toNat).drop ((ji54) : Int).toNat).length < 140737488355328
              ·rw [if_pos c58] at H
               have LMc58 := zA c58
               clear c58
               obtain ⟨y155, hy155⟩ : ∃ y_ : List Int, y_ = (y151 ++ ((l0.take ((wrap64 ((ji54) + (wrap64 (rd l0 (ji12))))) : Int).toNat).drop ((ji54) : Int).toNat)) := ⟨_, rfl⟩
               replace H : (some (wrap64 (rd l0 a1), y155, wrap64 ((ji54) + (wrap64 (rd l0 (ji12)))), true)) = some (r1, r2, r3, r4) := by first | (rw [hy155]; with_reducible exact H) | (have H2_ := (Option.bind_some _ _).symm.trans H; rw [hy155]; with_reducible exact H2_) | (have H2_ := (Option.bind_some _ _).symm.trans H; with_reducible exact H2_) | with_reducible exact H | (rw [hy155]; exact H) | exact H
               have Ny155 := zA hy155
               clear hy155
               simp only [Option.some.injEq, Prod.mk.injEq] at H
               obtain ⟨rfl, rfl, rfl, rfl⟩ := H
               have p118 : 0 ≤ ((ji12) : Int) := of_decide_eq_true zq4
               have q118 : (ji12) < (l0.length : Int) := of_decide_eq_true zq4
               obtain ⟨ad118, e118, hx118_0⟩ := Kd.at_int HR0.out (ji12) p118 q118
               cases e118
               replace p118 := eq_true p118
               replace q118 := eq_true q118
               go_enter Try.func117, Try.ntmps117
               try go_wp2
               have n0_ := zA (below_drew1 HB.out)
               clear HB
               have HB := n0_
               clear n0_
               have p150 : 0 ≤ (a1 : Int) := of_decide_eq_true zq4
               have q150 : a1 < (l0.length : Int) := of_decide_eq_true zq4
               obtain ⟨ad150, e150, hx150_0⟩ := Kd.at_int HR0.out a1 p150 q150
               have hw150_0 := hx150_0
               obtain rfl : ad118 = ad150 := (by injection e150)
               replace hx150_0 := (HB.out.cell (World.block_lt_of_cell? w _ hx150_0)).trans hx150_0
               replace p150 := eq_true p150
               replace q150 := eq_true q150
               obtain ⟨i060, hi060, _, hsz60, _⟩ := info_parts info5
               obtain ⟨A60, hcut60, hA60, hC60⟩ := print_mid_of (P := Try.prog) (Value.int .u8) 0 22 5 .i64 .i64 Try.underlying22 hi060 hsz60 (some ad118) c0 l0 (ji54) (wrap64 ((ji54) + (wrap64 (rd l0 (ji12))))) (of_decide_eq_true zq4) zq120 (of_decide_eq_true zq4) HC0.out
               have HR154 := zA (Kd.C_of_reads (h1 := fun _ => rfl) (hA60 _ (Kd.reads_of_C HR0.out)))
               have HC154 := zA hC60
               clear hA60 hC60 hi060 hsz60
               refine start_ (n := 20) (S := fun w' => w'.cell? (ad118.add (a1).toNat) = some (.int .u8 (rd l0 a1))) (ds := []) #[false, false, false, false, false, false, false, false, false, false, false, false, false, false, false, false, false, false, false, false] (by kernel_rfl) rfl rfl (((HB.out.cell (World.block_lt_of_cell? w _ hw150_0)).trans hw150_0)) (fun hHeld => ?_); refine with_tabW spec_GetTlv.tab12 spec_GetTlv.bits12 (fun HT_ HW_ => ?_)
               generalize w.drew = w59 at HB HR154 hx150_0 hHeld ⊢
               refine pure_ (i := 0) (N := some 70) (v := ?_) (a' := ?_) #[true, false, false, false, false, false, false, false, false, false, false, false, false, false, false, false, false, false, false, false] rfl rfl (any_of HT_.out (by kernel_rfl)) (fun _ _ _ h => h) (Or.inl ⟨by rfl, ?_⟩) ?_ ?_
               rotate_left
               ·intro w'
                go_simp
                with_reducible rfl
               rotate_left
               ·simp only [Act.put, List.setIfInBounds_toArray, List.set_cons_zero, List.set_cons_succ, i64_w, i32_w]
                rfl
               refine pure_ (i := 1) (N := some 71) (v := ?_) (a' := ?_) #[true, true, false, false, false, false, false, false, false, false, false, false, false, false, false, false, false, false, false, false] rfl rfl (any_of HT_.out (by kernel_rfl)) (fun _ _ _ h => h) (Or.inl ⟨by rfl, ?_⟩) ?_ ?_
               rotate_left
               ·intro w'
                go_simp
                with_reducible rfl
               rotate_left
               ·simp only [Act.put, List.setIfInBounds_toArray, List.set_cons_zero, List.set_cons_succ, i64_w, i32_w]
                rfl
               refine pure_ (i := 2) (N := some 72) (v := ?_) (a' := ?_) #[true, true, true, false, false, false, false, false, false, false, false, false, false, false, false, false, false, false, false, false] rfl rfl (any_of HT_.out (by kernel_rfl)) (fun _ _ _ h => h) (Or.inl ⟨by rfl, ?_⟩) ?_ ?_
               rotate_left
               ·intro w'
                go_simp
                with_reducible rfl
               rotate_left
               ·simp only [Act.put, List.setIfInBounds_toArray, List.set_cons_zero, List.set_cons_succ, i64_w, i32_w]
                rfl
               refine pure_ (i := 6) (N := some 76) (v := ?_) (a' := ?_) #[true, true, true, false, false, false, true, false, false, false, false, false, false, false, false, false, false, false, false, false] rfl rfl (any_of HT_.out (by kernel_rfl)) (fun _ _ _ h => h) (Or.inl ⟨by rfl, ?_⟩) ?_ ?_
               rotate_left
               ·intro w'
                go_simp
                with_reducible rfl
               rotate_left
               ·simp only [Act.put, List.setIfInBounds_toArray, List.set_cons_zero, List.set_cons_succ, i64_w, i32_w]
                rfl
               refine pure_ (i := 7) (N := some 77) (v := ?_) (a' := ?_) #[true, true, true, false, false, false, true, true, false, false, false, false, false, false, false, false, false, false, false, false] rfl rfl (any_of HT_.out (by kernel_rfl)) (fun _ _ _ h => h) (Or.inl ⟨by rfl, ?_⟩) ?_ ?_
               rotate_left
               ·intro w'
                go_simp
                with_reducible rfl
               rotate_left
               ·simp only [Act.put, List.setIfInBounds_toArray, List.set_cons_zero, List.set_cons_succ, i64_w, i32_w]
                rfl
               refine pure_ (i := 8) (N := some 78) (v := ?_) (a' := ?_) #[true, true, true, false, false, false, true, true, true, false, false, false, false, false, false, false, false, false, false, false] rfl rfl (any_of HT_.out (by kernel_rfl)) (fun _ _ _ h => h) (Or.inl ⟨by rfl, ?_⟩) ?_ ?_
               rotate_left
               ·intro w'
                go_simp
                with_reducible rfl
               rotate_left
               ·simp only [Act.put, List.setIfInBounds_toArray, List.set_cons_zero, List.set_cons_succ, i64_w, i32_w]
                rfl
               refine pure_ (i := 9) (N := some 79) (v := ?_) (a' := ?_) #[true, true, true, false, false, false, true, true, true, true, false, false, false, false, false, false, false, false, false, false] rfl rfl (any_of HT_.out (by kernel_rfl)) (fun _ _ _ h => h) (Or.inl ⟨by rfl, ?_⟩) ?_ ?_
               rotate_left
               ·intro w'
                go_simp
                with_reducible rfl
               rotate_left
               ·simp only [Act.put, List.setIfInBounds_toArray, List.set_cons_zero, List.set_cons_succ, i64_w, i32_w]
                rfl
               refine pure_ (i := 10) (N := some 80) (v := ?_) (a' := ?_) #[true, true, true, false, false, false, true, true, true, true, true, false, false, false, false, false, false, false, false, false] rfl rfl (any_of HT_.out (by kernel_rfl)) (fun _ _ _ h => h) (Or.inl ⟨by rfl, ?_⟩) ?_ ?_
               rotate_left
               ·intro w'
                go_simp
                with_reducible rfl
               rotate_left
               ·simp only [Act.put, List.setIfInBounds_toArray, List.set_cons_zero, List.set_cons_succ, i64_w, i32_w]
                rfl
               refine pure_ (i := 11) (N := some 81) (v := ?_) (a' := ?_) #[true, true, true, false, false, false, true, true, true, true, true, true, false, false, false, false, false, false, false, false] rfl rfl (any_of HT_.out (by kernel_rfl)) (fun _ _ _ h => h) (Or.inl ⟨by rfl, ?_⟩) ?_ ?_
               rotate_left
               ·intro w'
                go_simp
                with_reducible rfl
               rotate_left
               ·simp only [Act.put, List.setIfInBounds_toArray, List.set_cons_zero, List.set_cons_succ, i64_w, i32_w]
                rfl
               refine pure_ (i := 13) (N := some 83) (v := ?_) (a' := ?_) #[true, true, true, false, false, false, true, true, true, true, true, true, false, true, false, false, false, false, false, false] rfl rfl (any_of HT_.out (by kernel_rfl)) (fun _ _ _ h => h) (Or.inl ⟨by rfl, ?_⟩) ?_ ?_
               rotate_left
               ·intro w'
                go_simp
                with_reducible rfl
               rotate_left
               ·simp only [Act.put, List.setIfInBounds_toArray, List.set_cons_zero, List.set_cons_succ, i64_w, i32_w]
                rfl
               refine pure_ (i := 14) (N := some 84) (v := ?_) (a' := ?_) #[true, true, true, false, false, false, true, true, true, true, true, true, false, true, true, false, false, false, false, false] rfl rfl (any_of HT_.out (by kernel_rfl)) (fun _ _ _ h => h) (Or.inl ⟨by rfl, ?_⟩) ?_ ?_
               rotate_left
               ·intro w'
                go_simp
                with_reducible rfl
               rotate_left
               ·simp only [Act.put, List.setIfInBounds_toArray, List.set_cons_zero, List.set_cons_succ, i64_w, i32_w]
                rfl
               refine pure_ (i := 15) (N := some 85) (v := ?_) (a' := ?_) #[true, true, true, false, false, false, true, true, true, true, true, true, false, true, true, true, false, false, false, false] rfl rfl (any_of HT_.out (by kernel_rfl)) (fun _ _ _ h => h) (Or.inl ⟨by rfl, ?_⟩) ?_ ?_
               rotate_left
               ·intro w'
                go_simp
                with_reducible rfl
               rotate_left
               ·simp only [Act.put, List.setIfInBounds_toArray, List.set_cons_zero, List.set_cons_succ, i64_w, i32_w]
                rfl
               refine take_ (i := 3) (N := some 73) (v := ?_) (a' := ?_) #[true, true, true, true, false, false, true, true, true, true, true, true, false, true, true, true, false, false, false, false] rfl rfl (take_ofW HT_.out HW_.out (by kernel_rfl)) (fun _ _ _ h => h) (Or.inl ⟨by rfl, ?_⟩) hHeld ?_ ?_
               rotate_left
               ·intro w' s0
                go_simp
                with_reducible rfl
               rotate_left
               ·simp only [Act.put, List.setIfInBounds_toArray, List.set_cons_zero, List.set_cons_succ, i64_w, i32_w]
                rfl
               refine pure_ (i := 4) (N := some 74) (v := ?_) (a' := ?_) #[true, true, true, true, true, false, true, true, true, true, true, true, false, true, true, true, false, false, false, false] rfl rfl (any_of HT_.out (by kernel_rfl)) (fun _ _ _ h => h) (Or.inl ⟨by rfl, ?_⟩) ?_ ?_
               rotate_left
               ·intro w'
                go_simp
                with_reducible rfl
               rotate_left
               ·simp only [Act.put, List.setIfInBounds_toArray, List.set_cons_zero, List.set_cons_succ, i64_w, i32_w]
                rfl
               refine one_ (i := 5) (N := some 75) #[true, true, true, true, true, true, true, true, true, true, true, true, false, true, true, true, false, false, false, false] rfl rfl (one_of HT_.out (by kernel_rfl)) zq55 (fun K hK => ?_)
               refine Kd.R_lit_step (Kd.int .u8) _ 5 ?hg (N := 75) ?hd (xs := ([] : List Int)) (inner := []) (ok := fun _ => True) (okp := fun _ => True) ?hr ?hp (fun _ hk => hk) trivial (Below.refl _ _) (Nat.le_refl _) zq48 ?_; (case hd => rfl); (case hg => rfl); (case hr => first | (go_simp; done) | (go_simp; rfl)); (case hp => exact (Reps.none _ _))
               intro v152 w61 ho62 hb hg_ hnew_
               clear hg_ hnew_
               (first | rw [← Ny151.out] at ho62 | (simp only [Int.reduceToNat] at ho62; rw [← Ny151.out] at ho62))
               have n0_ := zA (Kd.R_lower ho62 (below_size zq0))
               have n1_ := zA (below_step zq0 hb)
               clear HB
               have HO153 := n0_
               have HB := n1_
               clear n0_ n1_
               clear hb ho62
               refine hK.out _ _ (((HB.out.cell (World.block_lt_of_cell? w _ hw150_0)).trans hw150_0)) (fun hHeld => ?_)
               clear hK K
               refine norm_ (a' := ?_) ?_ ?_
               rotate_left
               ·show Act.put _ (some 75) _ = _
                simp only [Act.put, List.setIfInBounds_toArray, List.set_cons_zero, List.set_cons_succ, i64_w, i32_w]
                rfl
               refine one_ (i := 12) (N := some 82) #[true, true, true, true, true, true, true, true, true, true, true, true, true, true, true, true, false, false, false, false] rfl rfl (one_of HT_.out (by kernel_rfl)) zq55 (fun K hK => ?_)
               refine Kd.R_append_rows_step (Kd.int .u8) (w0 := w) w.heap.size zq121 (.tmp 75) (.tmp 81) 22 5 (.int .u8 0) 1 rfl Try.underlying22 info5 rfl zq55 zq128 v152 y151 ((l0.take ((wrap64 ((ji54) + (wrap64 (rd l0 (ji12))))) : Int).toNat).drop ((ji54) : Int).toNat) _ _ _ (fun _ => True) (fun _ => False) rfl rfl ?aO ?aR (fun _ _ h => h) (fun _ h => h.elim) ?aF ?aB ?aS ?aL ?_
               (case aR => first | (rw [← show ((l0.take ((wrap64 ((ji54) + (wrap64 (rd l0 (ji12))))) : Int).toNat).drop ((ji54) : Int).toNat).length = ((wrap64 ((ji54) + (wrap64 (rd l0 (ji12))))).toNat - (ji54).toNat) from zq132]; repeat (first | exact (Kd.C_below HR154.out HB.out) | (with_reducible refine Kd.C_alloc ?_ _) | (with_reducible refine Kd.C_drewN ?_ _) | (with_reducible refine Kd.C_drew ?_))) | (repeat (first | exact (Kd.C_below HR154.out HB.out) | (with_reducible refine Kd.C_alloc ?_ _) | (with_reducible refine Kd.C_drewN ?_ _) | (with_reducible refine Kd.C_drew ?_))))
               (case aB => exact zq0)
               (case aF => exact (fun _ _ => trivial))
               (case aO => exact (by (with_reducible repeat (first | apply Kd.R_alloc | apply Kd.R_drewN | apply Kd.R_drew)); exact HO153.out))
               (case aS => exact (below_size zq0))
               (case aL => have := LMc58.out; have hlx_ := (show ((l0.take ((wrap64 ((ji54) + (wrap64 (rd l0 (ji12))))) : Int).toNat).drop ((ji54) : Int).toNat).length = ((wrap64 ((ji54) + (wrap64 (rd l0 (ji12))))).toNat - (ji54).toNat) from zq132); omega)
               intro v156 w63 ho hb hg hat
               rw [← Ny155.out] at ho
               have n0_ := zA (hb)
               have n1_ := zA (ho)
               clear HB
               clear HO153
               have HB := n0_
               have HO157 := n1_
               clear n0_ n1_
               clear ho hb hg hat
               refine hK.out _ _ (((HB.out.cell (World.block_lt_of_cell? w _ hw150_0)).trans hw150_0)) (fun hHeld => ?_)
               clear hK K
               refine norm_ (a' := ?_) ?_ ?_
               rotate_left
               ·show Act.put _ (some 82) _ = _
                simp only [Act.put, List.setIfInBounds_toArray, List.set_cons_zero, List.set_cons_succ, i64_w, i32_w]
                rfl
               refine pure_ (i := 16) (N := some 4) (v := ?_) (a' := ?_) #[true, true, true, true, true, true, true, true, true, true, true, true, true, true, true, true, true, false, false, false] rfl rfl (any_of HT_.out (by kernel_rfl)) (fun _ _ _ h => h) (Or.inl ⟨by rfl, ?_⟩) ?_ ?_
               rotate_left
               ·intro w'
                go_simp
                with_reducible rfl
               rotate_left
               ·simp only [Act.put, List.setIfInBounds_toArray, List.set_cons_zero, List.set_cons_succ, i64_w, i32_w]
                rfl
               refine pure_ (i := 17) (N := some 5) (v := ?_) (a' := ?_) #[true, true, true, true, true, true, true, true, true, true, true, true, true, true, true, true, true, true, false, false] rfl rfl (any_of HT_.out (by kernel_rfl)) (fun _ _ _ h => h) (Or.inl ⟨by rfl, ?_⟩) ?_ ?_
               rotate_left
               ·intro w'
                go_simp
                with_reducible rfl
               rotate_left
               ·simp only [Act.put, List.setIfInBounds_toArray, List.set_cons_zero, List.set_cons_succ, i64_w, i32_w]
                rfl
               refine pure_ (i := 18) (N := some 6) (v := ?_) (a' := ?_) #[true, true, true, true, true, true, true, true, true, true, true, true, true, true, true, true, true, true, true, false] rfl rfl (any_of HT_.out (by kernel_rfl)) (fun _ _ _ h => h) (Or.inl ⟨by rfl, ?_⟩) ?_ ?_
               rotate_left
               ·intro w'
                go_simp
                with_reducible rfl
               rotate_left
               ·simp only [Act.put, List.setIfInBounds_toArray, List.set_cons_zero, List.set_cons_succ, i64_w, i32_w]
                rfl
               refine pure_ (i := 19) (N := some 7) (v := ?_) (a' := ?_) #[true, true, true, true, true, true, true, true, true, true, true, true, true, true, true, true, true, true, true, true] rfl rfl (any_of HT_.out (by kernel_rfl)) (fun _ _ _ h => h) (Or.inl ⟨by rfl, ?_⟩) ?_ ?_
               rotate_left
               ·intro w'
                go_simp
                with_reducible rfl
               rotate_left
               ·simp only [Act.put, List.setIfInBounds_toArray, List.set_cons_zero, List.set_cons_succ, i64_w, i32_w]
                rfl
               refine done_ (done_of HT_.out (by kernel_rfl)) ?_
               try go_wp2
               refine bodyPost_ret (results_list (rs := [.tmp 4, .tmp 5, .tmp 6, .tmp 7]) rfl zq48 (.tmp (.tmp (.tmp (.tmp .nil))))) rfl ?_
               exact ⟨_, by first | rfl | (simp [errW_none, errW_some] <;> rfl) | (simp only [← hji12, ← hji54]; first | rfl | (simp [errW_none, errW_some] <;> rfl)) | (simp [*, errW_none, errW_some] <;> rfl), by (with_reducible repeat (first | apply Kd.R_alloc | apply Kd.R_drewN | apply Kd.R_drew)); exact HO157.out, by repeat (first | (with_reducible first | exact HB.out | apply below_alloc | apply pw_below_drewN | apply below_drew1) | exact HB.out)⟩
              ·rw [if_neg c58] at H
               exact absurd H zq48
             ·rw [if_neg c57] at H
              exact absurd H zq48
            ·rw [if_neg c56] at H
             exact absurd H zq48
           ·rw [if_neg c55] at H
            exact absurd H zq48
          ·rw [if_neg c53] at H
           exact absurd H zq48
         ·rw [if_neg c52] at H
          exact absurd H zq48
     ·rw [if_neg c14] at H
      exact absurd H zq48
    ·rw [if_neg c13] at H
     exact absurd H zq48

end Go.Proofs.Ytkcgghgkmgbphaa.PFnVecs
