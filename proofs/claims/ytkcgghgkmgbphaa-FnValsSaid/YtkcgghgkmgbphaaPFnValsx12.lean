-- WRITTEN BY a turned copy of the kit's printer (wip/patch_print.py), for this claim
import Derived.Test.YtkcgghgkmgbphaaPFnValsx0
namespace Go.Proofs.Ytkcgghgkmgbphaa.PFnVals
open Go.RowKit Go.Proofs.YtkcgghgkmgbphaaW.PrintWords Go.Proofs.YtkcgghgkmgbphaaW.PrintLast Go.Proofs.YtkcgghgkmgbphaaW.PrintMore
attribute [local go_sem] max2_int min2_int max_two min_two max_three min_three max_four min_four   -- for this text's walks alone
set_option linter.unusedVariables false
set_option linter.unusedSimpArgs false

/-! ### spec_GetTlv: function 117 -/
def spec_GetTlv.f (l0 : List Int) (a1 : Int) : Option (Int × List Int × Int × Bool) := if a1 < 0 then (some (0, (([] : List Int)), 0, false)) else (if a1 ≥ (l0.length : Int) then (some (0, (([] : List Int)), 0, false)) else (if (wrap64 (a1 + 1)) ≥ (l0.length : Int) then (some (0, (([] : List Int)), 0, false)) else (if 0 ≤ (wrap64 (a1 + 1)) then (if (wrap64 (a1 + 1)) < (l0.length : Int) then (if (wrap64 (rd l0 (wrap64 (a1 + 1)))) > 127 then (if (wrap64 (rd l0 (wrap64 (a1 + 1)))) = 129 then (if (wrap64 (a1 + 2)) ≥ (l0.length : Int) then (some (0, (([] : List Int)), 0, false)) else (if 0 ≤ (wrap64 (a1 + 2)) then (if (wrap64 (a1 + 2)) < (l0.length : Int) then (if (rd l0 (wrap64 (a1 + 2))) < 128 then (some (0, (([] : List Int)), 0, false)) else (if (wrap64 (rd l0 (wrap64 (a1 + 2)))) > 250 then (some (0, (([] : List Int)), 0, false)) else (if (wrap64 (rd l0 (wrap64 (a1 + 2)))) > (wrap64 ((l0.length : Int) - (wrap64 ((wrap64 (a1 + 2)) + 1)))) then (some (0, (([] : List Int)), 0, false)) else (if 0 ≤ a1 then (if a1 < (l0.length : Int) then ((some (([] : List Int) : List Int)).bind fun y593 => (if 0 ≤ (wrap64 ((wrap64 (a1 + 2)) + 1)) then (if (wrap64 ((wrap64 (a1 + 2)) + 1)) ≤ (wrap64 ((wrap64 ((wrap64 (a1 + 2)) + 1)) + (wrap64 (rd l0 (wrap64 (a1 + 2)))))) then (if (wrap64 ((wrap64 ((wrap64 (a1 + 2)) + 1)) + (wrap64 (rd l0 (wrap64 (a1 + 2)))))) ≤ (l0.length : Int) then (if y593.length + ((l0.take ((wrap64 ((wrap64 ((wrap64 (a1 + 2)) + 1)) + (wrap64 (rd l0 (wrap64 (a1 + 2)))))) : Int).toNat).drop ((wrap64 ((wrap64 (a1 + 2)) + 1)) : Int).toNat).length < 140737488355328 then (some (wrap64 (rd l0 a1), (y593 ++ ((l0.take ((wrap64 ((wrap64 ((wrap64 (a1 + 2)) + 1)) + (wrap64 (rd l0 (wrap64 (a1 + 2)))))) : Int).toNat).drop ((wrap64 ((wrap64 (a1 + 2)) + 1)) : Int).toNat)), wrap64 ((wrap64 ((wrap64 (a1 + 2)) + 1)) + (wrap64 (rd l0 (wrap64 (a1 + 2))))), true)) else (none)) else (none)) else (none)) else (none))) else (none)) else (none))))) else (none)) else (none))) else (some (0, (([] : List Int)), 0, false))) else (if (wrap64 (rd l0 (wrap64 (a1 + 1)))) > 250 then (some (0, (([] : List Int)), 0, false)) else (if (wrap64 (rd l0 (wrap64 (a1 + 1)))) > (wrap64 ((l0.length : Int) - (wrap64 (a1 + 2)))) then (some (0, (([] : List Int)), 0, false)) else (if 0 ≤ a1 then (if a1 < (l0.length : Int) then ((some (([] : List Int) : List Int)).bind fun y610 => (if 0 ≤ (wrap64 (a1 + 2)) then (if (wrap64 (a1 + 2)) ≤ (wrap64 ((wrap64 (a1 + 2)) + (wrap64 (rd l0 (wrap64 (a1 + 1)))))) then (if (wrap64 ((wrap64 (a1 + 2)) + (wrap64 (rd l0 (wrap64 (a1 + 1)))))) ≤ (l0.length : Int) then (if y610.length + ((l0.take ((wrap64 ((wrap64 (a1 + 2)) + (wrap64 (rd l0 (wrap64 (a1 + 1)))))) : Int).toNat).drop ((wrap64 (a1 + 2)) : Int).toNat).length < 140737488355328 then (some (wrap64 (rd l0 a1), (y610 ++ ((l0.take ((wrap64 ((wrap64 (a1 + 2)) + (wrap64 (rd l0 (wrap64 (a1 + 1)))))) : Int).toNat).drop ((wrap64 (a1 + 2)) : Int).toNat)), wrap64 ((wrap64 (a1 + 2)) + (wrap64 (rd l0 (wrap64 (a1 + 1))))), true)) else (none)) else (none)) else (none)) else (none))) else (none)) else (none))))) else (none)) else (none))))
def spec_GetTlv.T12 : Bool × List (List Nat × List Nat) := (true, [([], []), ([], []), ([0, 1], [0, 1]), ([2], [2]), ([3], [3]), ([], []), ([], []), ([], []), ([], []), ([], []), ([8, 9], [8, 9]), ([6, 7, 10], [6, 7, 10]), ([5, 11], [5, 11]), ([], []), ([], []), ([13, 14], [13, 14]), ([4, 12, 0, 1, 2, 3, 4], [4]), ([12, 16, 0, 1, 2, 3, 4, 5, 6, 7, 8, 9, 10, 11, 12, 16], [12]), ([15, 17, 0, 1, 2, 3, 4, 5, 6, 7, 8, 9, 10, 11, 12, 13, 14, 15, 16, 17], [15]), ([18, 0, 1, 2, 3, 4, 5, 6, 7, 8, 9, 10, 11, 12, 13, 14, 15, 16, 17, 18], [])])
def spec_GetTlv.B12 : List Nat := [0, 0, 3, 7, 15, 0, 0, 0, 0, 0, 768, 1984, 4064, 0, 0, 24576, 8191, 73727, 262143, 524287]
theorem spec_GetTlv.tab12 : rtab .any (opsOf Try.f117 12) = spec_GetTlv.T12 := by kernel_rfl
theorem spec_GetTlv.bits12 : waitsOk spec_GetTlv.T12.2 spec_GetTlv.B12 = true := by kernel_rfl
set_option maxHeartbeats 8000000 in
set_option maxRecDepth 100000 in
theorem spec_GetTlv.calls (A0 : Option Addr) (c0 : Nat) (l0 : List Int) (a1 : Int) (r1 : Int) (r2 : List Int) (r3 : Int) (r4 : Bool) (w : World) (hr0 : Kd.C (Kd.int .u8) w A0 l0.length l0) (hc0 : l0.length ≤ c0) (h : spec_GetTlv.f l0 a1 = some (r1, r2, r3, r4)) :
  Calls Try.prog 117 #[.slice A0 l0.length c0, .int .i64 a1] w fun e w' => ∃ v1_ : Value, e = .returned (.tuple #[.int .i64 r1, v1_, .int .i64 r3, .bool r4]) ∧ Kd.R (Kd.int .u8) 5 w' w.heap.size (fun _ => True) v1_ r2 ∧ Below w.heap.size w w' := by
 have HR0 := zA hr0
 have HC0 := zA hc0
 clear hr0 hc0
 have HB := zA (Below.refl w.heap.size w)
 unfold spec_GetTlv.f at h
 have H := h
 clear h
 have HC3 := zA H
 clear H
 go_enter Try.func117, Try.ntmps117
 go_upto_region 0 with (fail)
 have H := HC3.out
 clear HC3
 have HC4 := zA H
 clear H
 go_upto_region 1 with (fail)
 have H := HC4.out
 clear HC4
 by_cases c5 : a1 < 0
 ·rw [if_pos c5] at H
  have c5b0 : decide (a1 < 0) = true := decide_eq_true c5
  clear c5
  have HC6 := zA H
  clear H
  go_upto_region 2 with (fail)
  have H := HC6.out
  clear HC6
  obtain ⟨y568, hy568⟩ : ∃ y_ : List Int, y_ = (([] : List Int)) := ⟨_, rfl⟩
  rw [← hy568] at H
  have Ny568 := zA hy568
  clear hy568
  simp only [Option.some.injEq, Prod.mk.injEq] at H
  obtain ⟨rfl, rfl, rfl, rfl⟩ := H
  go_wp2_with (first | ((with_reducible refine gate_dst (N := 25) rfl ?_); (try (refine gate_guard zq84 ?_; dsimp only)); refine Kd.R_lit (Kd.int .u8) _ 5 ?hg (N := 25) ?hd (xs := ([] : List Int)) (inner := []) (ok := fun _ => True) (okp := fun _ => True) ?hr ?hp (fun _ hk => hk) trivial (Below.refl _ _) (Nat.le_refl _) zq134 ?_; (case hd => rfl); (case hg => rfl); (case hr => first | (go_simp; done) | (go_simp; rfl)); (case hp => exact (Reps.none _ _)); intro v569 w7 ho8 hb hg_ hnew_; clear hg_ hnew_; (first | rw [← Ny568.out] at ho8 | (simp only [Int.reduceToNat] at ho8; rw [← Ny568.out] at ho8)); have HO570 := zA (Kd.R_lower ho8 (below_size zq0)); replace HB := zA (below_step zq0 hb); clear hb ho8))
  refine bodyPost_ret (results_list (rs := [.tmp 4, .tmp 5, .tmp 6, .tmp 7]) rfl zq134 (.tmp (.tmp (.tmp (.tmp .nil))))) rfl ?_
  exact ⟨_, zq2, (by (with_reducible repeat (first | apply Kd.R_alloc | apply Kd.R_drewN | apply Kd.R_drew)); exact HO570.out), zq0⟩
 ·rw [if_neg c5] at H
  have c5b0 : decide (a1 < 0) = false := decide_eq_false c5
  clear c5
  by_cases c9 : a1 ≥ (l0.length : Int)
  ·rw [if_pos c9] at H
   have c9b0 : decide ((l0.length : Int) ≤ a1) = true := decide_eq_true c9
   clear c9
   have HC10 := zA H
   clear H
   go_upto_region 2 with (fail)
   have H := HC10.out
   clear HC10
   obtain ⟨y571, hy571⟩ : ∃ y_ : List Int, y_ = (([] : List Int)) := ⟨_, rfl⟩
   rw [← hy571] at H
   have Ny571 := zA hy571
   clear hy571
   simp only [Option.some.injEq, Prod.mk.injEq] at H
   obtain ⟨rfl, rfl, rfl, rfl⟩ := H
   go_wp2_with (first | ((with_reducible refine gate_dst (N := 25) rfl ?_); (try (refine gate_guard zq84 ?_; dsimp only)); refine Kd.R_lit (Kd.int .u8) _ 5 ?hg (N := 25) ?hd (xs := ([] : List Int)) (inner := []) (ok := fun _ => True) (okp := fun _ => True) ?hr ?hp (fun _ hk => hk) trivial (Below.refl _ _) (Nat.le_refl _) zq134 ?_; (case hd => rfl); (case hg => rfl); (case hr => first | (go_simp; done) | (go_simp; rfl)); (case hp => exact (Reps.none _ _)); intro v572 w11 ho12 hb hg_ hnew_; clear hg_ hnew_; (first | rw [← Ny571.out] at ho12 | (simp only [Int.reduceToNat] at ho12; rw [← Ny571.out] at ho12)); have HO573 := zA (Kd.R_lower ho12 (below_size zq0)); replace HB := zA (below_step zq0 hb); clear hb ho12))
   refine bodyPost_ret (results_list (rs := [.tmp 4, .tmp 5, .tmp 6, .tmp 7]) rfl zq134 (.tmp (.tmp (.tmp (.tmp .nil))))) rfl ?_
   exact ⟨_, zq2, (by (with_reducible repeat (first | apply Kd.R_alloc | apply Kd.R_drewN | apply Kd.R_drew)); exact HO573.out), zq0⟩
  ·rw [if_neg c9] at H
   have c9b0 : decide ((l0.length : Int) ≤ a1) = false := decide_eq_false c9
   clear c9
   by_cases c13 : (wrap64 (a1 + 1)) ≥ (l0.length : Int)
   ·rw [if_pos c13] at H
    have c13b0 : decide ((l0.length : Int) ≤ (wrap64 (a1 + 1))) = true := decide_eq_true c13
    clear c13
    have HC14 := zA H
    clear H
    go_upto_region 2 with (fail)
    have H := HC14.out
    clear HC14
    obtain ⟨y574, hy574⟩ : ∃ y_ : List Int, y_ = (([] : List Int)) := ⟨_, rfl⟩
    rw [← hy574] at H
    have Ny574 := zA hy574
    clear hy574
    simp only [Option.some.injEq, Prod.mk.injEq] at H
    obtain ⟨rfl, rfl, rfl, rfl⟩ := H
    go_wp2_with (first | ((with_reducible refine gate_dst (N := 25) rfl ?_); (try (refine gate_guard zq84 ?_; dsimp only)); refine Kd.R_lit (Kd.int .u8) _ 5 ?hg (N := 25) ?hd (xs := ([] : List Int)) (inner := []) (ok := fun _ => True) (okp := fun _ => True) ?hr ?hp (fun _ hk => hk) trivial (Below.refl _ _) (Nat.le_refl _) zq134 ?_; (case hd => rfl); (case hg => rfl); (case hr => first | (go_simp; done) | (go_simp; rfl)); (case hp => exact (Reps.none _ _)); intro v575 w15 ho16 hb hg_ hnew_; clear hg_ hnew_; (first | rw [← Ny574.out] at ho16 | (simp only [Int.reduceToNat] at ho16; rw [← Ny574.out] at ho16)); have HO576 := zA (Kd.R_lower ho16 (below_size zq0)); replace HB := zA (below_step zq0 hb); clear hb ho16))
    refine bodyPost_ret (results_list (rs := [.tmp 4, .tmp 5, .tmp 6, .tmp 7]) rfl zq134 (.tmp (.tmp (.tmp (.tmp .nil))))) rfl ?_
    exact ⟨_, zq2, (by (with_reducible repeat (first | apply Kd.R_alloc | apply Kd.R_drewN | apply Kd.R_drew)); exact HO576.out), zq0⟩
   ·rw [if_neg c13] at H
    have c13b0 : decide ((l0.length : Int) ≤ (wrap64 (a1 + 1))) = false := decide_eq_false c13
    clear c13
    have HC17 := zA H
    clear H
    go_upto_region 3 with (fail)
    have H := HC17.out
    clear HC17
    obtain ⟨ji18, hji18⟩ : ∃ j_ : Int, (wrap64 (a1 + 1)) = j_ := ⟨_, rfl⟩
    replace H : (if 0 ≤ (ji18) then (if (ji18) < (l0.length : Int) then (if (wrap64 (rd l0 (ji18))) > 127 then (if (wrap64 (rd l0 (ji18))) = 129 then (if (wrap64 (a1 + 2)) ≥ (l0.length : Int) then (some (0, (([] : List Int)), 0, false)) else (if 0 ≤ (wrap64 (a1 + 2)) then (if (wrap64 (a1 + 2)) < (l0.length : Int) then (if (rd l0 (wrap64 (a1 + 2))) < 128 then (some (0, (([] : List Int)), 0, false)) else (if (wrap64 (rd l0 (wrap64 (a1 + 2)))) > 250 then (some (0, (([] : List Int)), 0, false)) else (if (wrap64 (rd l0 (wrap64 (a1 + 2)))) > (wrap64 ((l0.length : Int) - (wrap64 ((wrap64 (a1 + 2)) + 1)))) then (some (0, (([] : List Int)), 0, false)) else (if 0 ≤ a1 then (if a1 < (l0.length : Int) then ((some (([] : List Int) : List Int)).bind fun y593 => (if 0 ≤ (wrap64 ((wrap64 (a1 + 2)) + 1)) then (if (wrap64 ((wrap64 (a1 + 2)) + 1)) ≤ (wrap64 ((wrap64 ((wrap64 (a1 + 2)) + 1)) + (wrap64 (rd l0 (wrap64 (a1 + 2)))))) then (if (wrap64 ((wrap64 ((wrap64 (a1 + 2)) + 1)) + (wrap64 (rd l0 (wrap64 (a1 + 2)))))) ≤ (l0.length : Int) then (if y593.length + ((l0.take ((wrap64 ((wrap64 ((wrap64 (a1 + 2)) + 1)) + (wrap64 (rd l0 (wrap64 (a1 + 2)))))) : Int).toNat).drop ((wrap64 ((wrap64 (a1 + 2)) + 1)) : Int).toNat).length < 140737488355328 then (some (wrap64 (rd l0 a1), (y593 ++ ((l0.take ((wrap64 ((wrap64 ((wrap64 (a1 + 2)) + 1)) + (wrap64 (rd l0 (wrap64 (a1 + 2)))))) : Int).toNat).drop ((wrap64 ((wrap64 (a1 + 2)) + 1)) : Int).toNat)), wrap64 ((wrap64 ((wrap64 (a1 + 2)) + 1)) + (wrap64 (rd l0 (wrap64 (a1 + 2))))), true)) else (none)) else (none)) else (none)) else (none))) else (none)) else (none))))) else (none)) else (none))) else (some (0, (([] : List Int)), 0, false))) else (if (wrap64 (rd l0 (ji18))) > 250 then (some (0, (([] : List Int)), 0, false)) else (if (wrap64 (rd l0 (ji18))) > (wrap64 ((l0.length : Int) - (wrap64 (a1 + 2)))) then (some (0, (([] : List Int)), 0, false)) else (if 0 ≤ a1 then (if a1 < (l0.length : Int) then ((some (([] : List Int) : List Int)).bind fun y610 => (if 0 ≤ (wrap64 (a1 + 2)) then (if (wrap64 (a1 + 2)) ≤ (wrap64 ((wrap64 (a1 + 2)) + (wrap64 (rd l0 (ji18))))) then (if (wrap64 ((wrap64 (a1 + 2)) + (wrap64 (rd l0 (ji18))))) ≤ (l0.length : Int) then (if y610.length + ((l0.take ((wrap64 ((wrap64 (a1 + 2)) + (wrap64 (rd l0 (ji18))))) : Int).toNat).drop ((wrap64 (a1 + 2)) : Int).toNat).length < 140737488355328 then (some (wrap64 (rd l0 a1), (y610 ++ ((l0.take ((wrap64 ((wrap64 (a1 + 2)) + (wrap64 (rd l0 (ji18))))) : Int).toNat).drop ((wrap64 (a1 + 2)) : Int).toNat)), wrap64 ((wrap64 (a1 + 2)) + (wrap64 (rd l0 (ji18)))), true)) else (none)) else (none)) else (none)) else (none))) else (none)) else (none))))) else (none)) else (none)) = some (r1, r2, r3, r4) := by first | (rw [hji18] at H; exact H) | (simp only [hji18] at H ⊢; exact H)
    (try rw [hji18] at c13b0)
    have hji18w : (IntKind.i64.wrap (a1 + 1)) = ji18 := (i64_w _).trans hji18
    obtain ⟨c19, H⟩ := zN H
    have c19b0 : decide (0 ≤ (ji18)) = true := decide_eq_true c19
    clear c19
    obtain ⟨c20, H⟩ := zN H
    have c20b0 : decide ((ji18) < (l0.length : Int)) = true := decide_eq_true c20
    clear c20
    have HC21 := zA H
    clear H
    have p577 : 0 ≤ ((ji18) : Int) := of_decide_eq_true zq7
    have q577 : (ji18) < (l0.length : Int) := of_decide_eq_true zq7
    obtain ⟨ad577, e577, hx577_0⟩ := Kd.at_int HR0.out (ji18) p577 q577
    cases e577
    replace hx577_0 := (HB.out.cell (World.block_lt_of_cell? w _ hx577_0)).trans hx577_0
    replace p577 := eq_true p577
    replace q577 := eq_true q577
    go_upto_region 4 with (fail)
    have H := HC21.out
    clear HC21
    have HC22 := zA H
    clear H
    go_upto_region 5 with (fail)
    have H := HC22.out
    clear HC22
    by_cases c23 : (wrap64 (rd l0 (ji18))) > 127
    ·rw [if_pos c23] at H
     have c23b0 : decide (127 < (wrap64 (rd l0 (ji18)))) = true := decide_eq_true c23
     clear c23
     have HC24 := zA H
     clear H
     go_upto_region 6 with (fail)
     have H := HC24.out
     clear HC24
     by_cases c25 : (wrap64 (rd l0 (ji18))) = 129
     ·rw [if_pos c25] at H
      have c25b0 : ((wrap64 (rd l0 (ji18))) == 129) = true := beq_iff_eq.mpr c25
      have c25b1 : ((wrap64 (rd l0 (ji18))) != 129) = false := bne_eq_false_iff_eq.mpr c25
      clear c25
      by_cases c26 : (wrap64 (a1 + 2)) ≥ (l0.length : Int)
      ·rw [if_pos c26] at H
       have c26b0 : decide ((l0.length : Int) ≤ (wrap64 (a1 + 2))) = true := decide_eq_true c26
       clear c26
       have HC27 := zA H
       clear H
       go_upto_region 7 with (fail)
       have H := HC27.out
       clear HC27
       obtain ⟨y578, hy578⟩ : ∃ y_ : List Int, y_ = (([] : List Int)) := ⟨_, rfl⟩
       rw [← hy578] at H
       have Ny578 := zA hy578
       clear hy578
       simp only [Option.some.injEq, Prod.mk.injEq] at H
       obtain ⟨rfl, rfl, rfl, rfl⟩ := H
       go_wp2_with (first | ((with_reducible refine gate_dst (N := 51) rfl ?_); (try (refine gate_guard zq84 ?_; dsimp only)); refine Kd.R_lit (Kd.int .u8) _ 5 ?hg (N := 51) ?hd (xs := ([] : List Int)) (inner := []) (ok := fun _ => True) (okp := fun _ => True) ?hr ?hp (fun _ hk => hk) trivial (Below.refl _ _) (Nat.le_refl _) zq134 ?_; (case hd => rfl); (case hg => rfl); (case hr => first | (go_simp; done) | (go_simp; rfl)); (case hp => exact (Reps.none _ _)); intro v579 w28 ho29 hb hg_ hnew_; clear hg_ hnew_; (first | rw [← Ny578.out] at ho29 | (simp only [Int.reduceToNat] at ho29; rw [← Ny578.out] at ho29)); have HO580 := zA (Kd.R_lower ho29 (below_size zq0)); replace HB := zA (below_step zq0 hb); clear hb ho29))
       refine bodyPost_ret (results_list (rs := [.tmp 4, .tmp 5, .tmp 6, .tmp 7]) rfl zq134 (.tmp (.tmp (.tmp (.tmp .nil))))) rfl ?_
       exact ⟨_, zq131, (by (with_reducible repeat (first | apply Kd.R_alloc | apply Kd.R_drewN | apply Kd.R_drew)); exact HO580.out), zq0⟩
      ·rw [if_neg c26] at H
       have c26b0 : decide ((l0.length : Int) ≤ (wrap64 (a1 + 2))) = false := decide_eq_false c26
       clear c26
       obtain ⟨ji30, hji30⟩ : ∃ j_ : Int, (wrap64 (a1 + 2)) = j_ := ⟨_, rfl⟩
       replace H : (if 0 ≤ (ji30) then (if (ji30) < (l0.length : Int) then (if (rd l0 (ji30)) < 128 then (some (0, (([] : List Int)), 0, false)) else (if (wrap64 (rd l0 (ji30))) > 250 then (some (0, (([] : List Int)), 0, false)) else (if (wrap64 (rd l0 (ji30))) > (wrap64 ((l0.length : Int) - (wrap64 ((ji30) + 1)))) then (some (0, (([] : List Int)), 0, false)) else (if 0 ≤ a1 then (if a1 < (l0.length : Int) then ((some (([] : List Int) : List Int)).bind fun y593 => (if 0 ≤ (wrap64 ((ji30) + 1)) then (if (wrap64 ((ji30) + 1)) ≤ (wrap64 ((wrap64 ((ji30) + 1)) + (wrap64 (rd l0 (ji30))))) then (if (wrap64 ((wrap64 ((ji30) + 1)) + (wrap64 (rd l0 (ji30))))) ≤ (l0.length : Int) then (if y593.length + ((l0.take ((wrap64 ((wrap64 ((ji30) + 1)) + (wrap64 (rd l0 (ji30))))) : Int).toNat).drop ((wrap64 ((ji30) + 1)) : Int).toNat).length < 140737488355328 then (some (wrap64 (rd l0 a1), (y593 ++ ((l0.take ((wrap64 ((wrap64 ((ji30) + 1)) + (wrap64 (rd l0 (ji30))))) : Int).toNat).drop ((wrap64 ((ji30) + 1)) : Int).toNat)), wrap64 ((wrap64 ((ji30) + 1)) + (wrap64 (rd l0 (ji30)))), true)) else (none)) else (none)) else (none)) else (none))) else (none)) else (none))))) else (none)) else (none)) = some (r1, r2, r3, r4) := by first | (rw [hji30] at H; exact H) | (simp only [hji30] at H ⊢; exact H)
       (try rw [hji30] at c26b0)
       have hji30w : (IntKind.i64.wrap (a1 + 2)) = ji30 := (i64_w _).trans hji30
       obtain ⟨c31, H⟩ := zN H
       have c31b0 : decide (0 ≤ (ji30)) = true := decide_eq_true c31
       clear c31
       obtain ⟨c32, H⟩ := zN H
       have c32b0 : decide ((ji30) < (l0.length : Int)) = true := decide_eq_true c32
       clear c32
       by_cases c33 : (rd l0 (ji30)) < 128
       ·rw [if_pos c33] at H
        have c33b0 : decide ((rd l0 (ji30)) < 128) = true := decide_eq_true c33
        clear c33
        have HC34 := zA H
        clear H
        have p581 : 0 ≤ ((ji30) : Int) := of_decide_eq_true zq7
        have q581 : (ji30) < (l0.length : Int) := of_decide_eq_true zq7
        obtain ⟨ad581, e581, hx581_0⟩ := Kd.at_int HR0.out (ji30) p581 q581
        obtain rfl : ad577 = ad581 := (by injection e581)
        replace hx581_0 := (HB.out.cell (World.block_lt_of_cell? w _ hx581_0)).trans hx581_0
        replace p581 := eq_true p581
        replace q581 := eq_true q581
        go_upto_region 7 with (fail)
        have H := HC34.out
        clear HC34
        obtain ⟨y582, hy582⟩ : ∃ y_ : List Int, y_ = (([] : List Int)) := ⟨_, rfl⟩
        rw [← hy582] at H
        have Ny582 := zA hy582
        clear hy582
        simp only [Option.some.injEq, Prod.mk.injEq] at H
        obtain ⟨rfl, rfl, rfl, rfl⟩ := H
        go_wp2_with (first | ((with_reducible refine gate_dst (N := 51) rfl ?_); (try (refine gate_guard zq84 ?_; dsimp only)); refine Kd.R_lit (Kd.int .u8) _ 5 ?hg (N := 51) ?hd (xs := ([] : List Int)) (inner := []) (ok := fun _ => True) (okp := fun _ => True) ?hr ?hp (fun _ hk => hk) trivial (Below.refl _ _) (Nat.le_refl _) zq134 ?_; (case hd => rfl); (case hg => rfl); (case hr => first | (go_simp; done) | (go_simp; rfl)); (case hp => exact (Reps.none _ _)); intro v583 w35 ho36 hb hg_ hnew_; clear hg_ hnew_; (first | rw [← Ny582.out] at ho36 | (simp only [Int.reduceToNat] at ho36; rw [← Ny582.out] at ho36)); have HO584 := zA (Kd.R_lower ho36 (below_size zq0)); replace HB := zA (below_step zq0 hb); clear hb ho36))
        refine bodyPost_ret (results_list (rs := [.tmp 4, .tmp 5, .tmp 6, .tmp 7]) rfl zq134 (.tmp (.tmp (.tmp (.tmp .nil))))) rfl ?_
        exact ⟨_, zq147, (by (with_reducible repeat (first | apply Kd.R_alloc | apply Kd.R_drewN | apply Kd.R_drew)); exact HO584.out), zq0⟩
       ·rw [if_neg c33] at H
        have c33b0 : decide ((rd l0 (ji30)) < 128) = false := decide_eq_false c33
        clear c33
        have HC37 := zA H
        clear H
        have p581 : 0 ≤ ((ji30) : Int) := of_decide_eq_true zq7
        have q581 : (ji30) < (l0.length : Int) := of_decide_eq_true zq7
        obtain ⟨ad581, e581, hx581_0⟩ := Kd.at_int HR0.out (ji30) p581 q581
        obtain rfl : ad577 = ad581 := (by injection e581)
        replace hx581_0 := (HB.out.cell (World.block_lt_of_cell? w _ hx581_0)).trans hx581_0
        replace p581 := eq_true p581
        replace q581 := eq_true q581
        go_upto_region 8 with (fail)
        have H := HC37.out
        clear HC37
        have HC38 := zA H
        clear H
        have p585 : 0 ≤ ((ji30) : Int) := of_decide_eq_true zq7
        have q585 : (ji30) < (l0.length : Int) := of_decide_eq_true zq7
        obtain ⟨ad585, e585, hx585_0⟩ := Kd.at_int HR0.out (ji30) p585 q585
        obtain rfl : ad577 = ad585 := (by injection e585)
        replace hx585_0 := (HB.out.cell (World.block_lt_of_cell? w _ hx585_0)).trans hx585_0
        replace p585 := eq_true p585
        replace q585 := eq_true q585
        go_upto_region 9 with (fail)
        have H := HC38.out
        clear HC38
        have HC39 := zA H
        clear H
        go_upto_region 10 with (fail)
        have H := HC39.out
        clear HC39
        by_cases c40 : (wrap64 (rd l0 (ji30))) > 250
        ·rw [if_pos c40] at H
         have c40b0 : decide (250 < (wrap64 (rd l0 (ji30)))) = true := decide_eq_true c40
         clear c40
         have HC41 := zA H
         clear H
         go_upto_region 11 with (fail)
         have H := HC41.out
         clear HC41
         obtain ⟨y586, hy586⟩ : ∃ y_ : List Int, y_ = (([] : List Int)) := ⟨_, rfl⟩
         rw [← hy586] at H
         have Ny586 := zA hy586
         clear hy586
         simp only [Option.some.injEq, Prod.mk.injEq] at H
         obtain ⟨rfl, rfl, rfl, rfl⟩ := H
         go_wp2_with (first | ((with_reducible refine gate_dst (N := 69) rfl ?_); (try (refine gate_guard zq84 ?_; dsimp only)); refine Kd.R_lit (Kd.int .u8) _ 5 ?hg (N := 69) ?hd (xs := ([] : List Int)) (inner := []) (ok := fun _ => True) (okp := fun _ => True) ?hr ?hp (fun _ hk => hk) trivial (Below.refl _ _) (Nat.le_refl _) zq134 ?_; (case hd => rfl); (case hg => rfl); (case hr => first | (go_simp; done) | (go_simp; rfl)); (case hp => exact (Reps.none _ _)); intro v587 w42 ho43 hb hg_ hnew_; clear hg_ hnew_; (first | rw [← Ny586.out] at ho43 | (simp only [Int.reduceToNat] at ho43; rw [← Ny586.out] at ho43)); have HO588 := zA (Kd.R_lower ho43 (below_size zq0)); replace HB := zA (below_step zq0 hb); clear hb ho43))
         refine bodyPost_ret (results_list (rs := [.tmp 4, .tmp 5, .tmp 6, .tmp 7]) rfl zq134 (.tmp (.tmp (.tmp (.tmp .nil))))) rfl ?_
         exact ⟨_, zq147, (by (with_reducible repeat (first | apply Kd.R_alloc | apply Kd.R_drewN | apply Kd.R_drew)); exact HO588.out), zq0⟩
        ·rw [if_neg c40] at H
         have c40b0 : decide (250 < (wrap64 (rd l0 (ji30)))) = false := decide_eq_false c40
         clear c40
         by_cases c44 : (wrap64 (rd l0 (ji30))) > (wrap64 ((l0.length : Int) - (wrap64 ((ji30) + 1))))
         ·rw [if_pos c44] at H
          have c44b0 : decide ((wrap64 ((l0.length : Int) - (wrap64 ((ji30) + 1)))) < (wrap64 (rd l0 (ji30)))) = true := decide_eq_true c44
          clear c44
          have HC45 := zA H
          clear H
          go_upto_region 11 with (fail)
          have H := HC45.out
          clear HC45
          obtain ⟨y589, hy589⟩ : ∃ y_ : List Int, y_ = (([] : List Int)) := ⟨_, rfl⟩
          rw [← hy589] at H
          have Ny589 := zA hy589
          clear hy589
          simp only [Option.some.injEq, Prod.mk.injEq] at H
          obtain ⟨rfl, rfl, rfl, rfl⟩ := H
          go_wp2_with (first | ((with_reducible refine gate_dst (N := 69) rfl ?_); (try (refine gate_guard zq84 ?_; dsimp only)); refine Kd.R_lit (Kd.int .u8) _ 5 ?hg (N := 69) ?hd (xs := ([] : List Int)) (inner := []) (ok := fun _ => True) (okp := fun _ => True) ?hr ?hp (fun _ hk => hk) trivial (Below.refl _ _) (Nat.le_refl _) zq134 ?_; (case hd => rfl); (case hg => rfl); (case hr => first | (go_simp; done) | (go_simp; rfl)); (case hp => exact (Reps.none _ _)); intro v590 w46 ho47 hb hg_ hnew_; clear hg_ hnew_; (first | rw [← Ny589.out] at ho47 | (simp only [Int.reduceToNat] at ho47; rw [← Ny589.out] at ho47)); have HO591 := zA (Kd.R_lower ho47 (below_size zq0)); replace HB := zA (below_step zq0 hb); clear hb ho47))
          refine bodyPost_ret (results_list (rs := [.tmp 4, .tmp 5, .tmp 6, .tmp 7]) rfl zq134 (.tmp (.tmp (.tmp (.tmp .nil))))) rfl ?_
          exact ⟨_, zq147, (by (with_reducible repeat (first | apply Kd.R_alloc | apply Kd.R_drewN | apply Kd.R_drew)); exact HO591.out), zq0⟩
         ·rw [if_neg c44] at H
          have c44b0 : decide ((wrap64 ((l0.length : Int) - (wrap64 ((ji30) + 1)))) < (wrap64 (rd l0 (ji30)))) = false := decide_eq_false c44
          clear c44
          have HC48 := zA H
          clear H
          go_upto_region 12 with (fail)
          have H := HC48.out
          clear HC48
          obtain ⟨c49, H⟩ := zN H
          have c49b0 : decide (0 ≤ a1) = true := decide_eq_true c49
          clear c49
          obtain ⟨c50, H⟩ := zN H
          have c50b0 : decide (a1 < (l0.length : Int)) = true := decide_eq_true c50
          clear c50
          obtain ⟨y593, Ny593, H⟩ := zS (([] : List Int)) H
          obtain ⟨ji51, hji51⟩ : ∃ j_ : Int, (wrap64 ((ji30) + 1)) = j_ := ⟨_, rfl⟩
          replace H : (if 0 ≤ (ji51) then (if (ji51) ≤ (wrap64 ((ji51) + (wrap64 (rd l0 (ji30))))) then (if (wrap64 ((ji51) + (wrap64 (rd l0 (ji30))))) ≤ (l0.length : Int) then (if y593.length + ((l0.take ((wrap64 ((ji51) + (wrap64 (rd l0 (ji30))))) : Int).toNat).drop ((ji51) : Int).toNat).length < 140737488355328 then (some (wrap64 (rd l0 a1), (y593 ++ ((l0.take ((wrap64 ((ji51) + (wrap64 (rd l0 (ji30))))) : Int).toNat).drop ((ji51) : Int).toNat)), wrap64 ((ji51) + (wrap64 (rd l0 (ji30)))), true)) else (none)) else (none)) else (none)) else (none)) = some (r1, r2, r3, r4) := by first | (rw [hji51] at H; exact H) | (simp only [hji51] at H ⊢; exact H)
          (try rw [hji51] at c44b0)
          have hji51w : (IntKind.i64.wrap ((ji30) + 1)) = ji51 := (i64_w _).trans hji51
          obtain ⟨c52, H⟩ := zN H
          have c52b0 := eq_true c52
          have c52b1 : decide (0 ≤ (ji51)) = true := decide_eq_true c52
          clear c52
          obtain ⟨c53, H⟩ := zN H
          have c53b0 := eq_true c53
          have c53b1 : decide ((ji51) ≤ (wrap64 ((ji51) + (wrap64 (rd l0 (ji30)))))) = true := decide_eq_true c53
          obtain ⟨c54, H⟩ := zN H
          have c54b0 := eq_true c54
          have c54b1 : decide ((wrap64 ((ji51) + (wrap64 (rd l0 (ji30))))) ≤ (l0.length : Int)) = true := decide_eq_true c54
          obtain ⟨c55, H⟩ := zN H
          have LMc55 := zA c55
          clear c55
          obtain ⟨y597, hy597⟩ : ∃ y_ : List Int, y_ = (y593 ++ ((l0.take ((wrap64 ((ji51) + (wrap64 (rd l0 (ji30))))) : Int).toNat).drop ((ji51) : Int).toNat)) := ⟨_, rfl⟩
          rw [← hy597] at H
          have Ny597 := zA hy597
          clear hy597
          simp only [Option.some.injEq, Prod.mk.injEq] at H
          obtain ⟨rfl, rfl, rfl, rfl⟩ := H
          try go_wp2
          have n0_ := zA (below_drew1 HB.out)
          clear HB
          have HB := n0_
          clear n0_
          have p592 : 0 ≤ (a1 : Int) := of_decide_eq_true zq7
          have q592 : a1 < (l0.length : Int) := of_decide_eq_true zq7
          obtain ⟨ad592, e592, hx592_0⟩ := Kd.at_int HR0.out a1 p592 q592
          have hw592_0 := hx592_0
          obtain rfl : ad577 = ad592 := (by injection e592)
          replace hx592_0 := (HB.out.cell (World.block_lt_of_cell? w _ hx592_0)).trans hx592_0
          replace p592 := eq_true p592
          replace q592 := eq_true q592
          obtain ⟨i057, hi057, _, hsz57, _⟩ := info_parts info5
          obtain ⟨A57, hcut57, hA57, hC57⟩ := print_mid_of (P := Try.prog) (Value.int .u8) 0 22 5 .i64 .i64 Try.underlying22 hi057 hsz57 (some ad577) c0 l0 (ji51) (wrap64 ((ji51) + (wrap64 (rd l0 (ji30))))) (of_decide_eq_true zq7) zq163 (of_decide_eq_true zq7) HC0.out
          have HR596 := zA (Kd.C_of_reads (h1 := fun _ => rfl) (hA57 _ (Kd.reads_of_C HR0.out)))
          have HC596 := zA hC57
          clear hA57 hC57 hi057 hsz57
          refine start_ (n := 20) (S := fun w' => w'.cell? (ad577.add (a1).toNat) = some (.int .u8 (rd l0 a1))) (ds := []) #[false, false, false, false, false, false, false, false, false, false, false, false, false, false, false, false, false, false, false, false] (by kernel_rfl) rfl rfl (((HB.out.cell (World.block_lt_of_cell? w _ hw592_0)).trans hw592_0)) (fun hHeld => ?_); refine with_tabW spec_GetTlv.tab12 spec_GetTlv.bits12 (fun HT_ HW_ => ?_)
          generalize w.drew = w56 at HB HR596 hx592_0 hHeld ⊢
          refine pure_ (i := 0) (N := some 70) (v := ?_) (a' := ?_) #[true, false, false, false, false, false, false, false, false, false, false, false, false, false, false, false, false, false, false, false] rfl rfl (any_of HT_.out (by kernel_rfl)) (fun _ _ _ h => h) (Or.inl ⟨zq84, ?_⟩) ?_ ?_
          rotate_left
          ·intro w'
           go_simp
           with_reducible rfl
          rotate_left
          ·simp only [Act.put, List.setIfInBounds_toArray, List.set_cons_zero, List.set_cons_succ, i64_w, i32_w]
           rfl
          refine pure_ (i := 1) (N := some 71) (v := ?_) (a' := ?_) #[true, true, false, false, false, false, false, false, false, false, false, false, false, false, false, false, false, false, false, false] rfl rfl (any_of HT_.out (by kernel_rfl)) (fun _ _ _ h => h) (Or.inl ⟨zq84, ?_⟩) ?_ ?_
          rotate_left
          ·intro w'
           go_simp
           with_reducible rfl
          rotate_left
          ·simp only [Act.put, List.setIfInBounds_toArray, List.set_cons_zero, List.set_cons_succ, i64_w, i32_w]
           rfl
          refine pure_ (i := 2) (N := some 72) (v := ?_) (a' := ?_) #[true, true, true, false, false, false, false, false, false, false, false, false, false, false, false, false, false, false, false, false] rfl rfl (any_of HT_.out (by kernel_rfl)) (fun _ _ _ h => h) (Or.inl ⟨zq84, ?_⟩) ?_ ?_
          rotate_left
          ·intro w'
           go_simp
           with_reducible rfl
          rotate_left
          ·simp only [Act.put, List.setIfInBounds_toArray, List.set_cons_zero, List.set_cons_succ, i64_w, i32_w]
           rfl
          refine pure_ (i := 6) (N := some 76) (v := ?_) (a' := ?_) #[true, true, true, false, false, false, true, false, false, false, false, false, false, false, false, false, false, false, false, false] rfl rfl (any_of HT_.out (by kernel_rfl)) (fun _ _ _ h => h) (Or.inl ⟨zq84, ?_⟩) ?_ ?_
          rotate_left
          ·intro w'
           go_simp
           with_reducible rfl
          rotate_left
          ·simp only [Act.put, List.setIfInBounds_toArray, List.set_cons_zero, List.set_cons_succ, i64_w, i32_w]
           rfl
          refine pure_ (i := 7) (N := some 77) (v := ?_) (a' := ?_) #[true, true, true, false, false, false, true, true, false, false, false, false, false, false, false, false, false, false, false, false] rfl rfl (any_of HT_.out (by kernel_rfl)) (fun _ _ _ h => h) (Or.inl ⟨zq84, ?_⟩) ?_ ?_
          rotate_left
          ·intro w'
           go_simp
           with_reducible rfl
          rotate_left
          ·simp only [Act.put, List.setIfInBounds_toArray, List.set_cons_zero, List.set_cons_succ, i64_w, i32_w]
           rfl
          refine pure_ (i := 8) (N := some 78) (v := ?_) (a' := ?_) #[true, true, true, false, false, false, true, true, true, false, false, false, false, false, false, false, false, false, false, false] rfl rfl (any_of HT_.out (by kernel_rfl)) (fun _ _ _ h => h) (Or.inl ⟨zq84, ?_⟩) ?_ ?_
          rotate_left
          ·intro w'
           go_simp
           with_reducible rfl
          rotate_left
          ·simp only [Act.put, List.setIfInBounds_toArray, List.set_cons_zero, List.set_cons_succ, i64_w, i32_w]
           rfl
          refine pure_ (i := 9) (N := some 79) (v := ?_) (a' := ?_) #[true, true, true, false, false, false, true, true, true, true, false, false, false, false, false, false, false, false, false, false] rfl rfl (any_of HT_.out (by kernel_rfl)) (fun _ _ _ h => h) (Or.inl ⟨zq84, ?_⟩) ?_ ?_
          rotate_left
          ·intro w'
           go_simp
           with_reducible rfl
          rotate_left
          ·simp only [Act.put, List.setIfInBounds_toArray, List.set_cons_zero, List.set_cons_succ, i64_w, i32_w]
           rfl
          refine pure_ (i := 10) (N := some 80) (v := ?_) (a' := ?_) #[true, true, true, false, false, false, true, true, true, true, true, false, false, false, false, false, false, false, false, false] rfl rfl (any_of HT_.out (by kernel_rfl)) (fun _ _ _ h => h) (Or.inl ⟨zq84, ?_⟩) ?_ ?_
          rotate_left
          ·intro w'
           go_simp
           with_reducible rfl
          rotate_left
          ·simp only [Act.put, List.setIfInBounds_toArray, List.set_cons_zero, List.set_cons_succ, i64_w, i32_w]
           rfl
          refine pure_ (i := 11) (N := some 81) (v := ?_) (a' := ?_) #[true, true, true, false, false, false, true, true, true, true, true, true, false, false, false, false, false, false, false, false] rfl rfl (any_of HT_.out (by kernel_rfl)) (fun _ _ _ h => h) (Or.inl ⟨zq84, ?_⟩) ?_ ?_
          rotate_left
          ·intro w'
           go_simp
           with_reducible rfl
          rotate_left
          ·simp only [Act.put, List.setIfInBounds_toArray, List.set_cons_zero, List.set_cons_succ, i64_w, i32_w]
           rfl
          refine pure_ (i := 13) (N := some 83) (v := ?_) (a' := ?_) #[true, true, true, false, false, false, true, true, true, true, true, true, false, true, false, false, false, false, false, false] rfl rfl (any_of HT_.out (by kernel_rfl)) (fun _ _ _ h => h) (Or.inl ⟨zq84, ?_⟩) ?_ ?_
          rotate_left
          ·intro w'
           go_simp
           with_reducible rfl
          rotate_left
          ·simp only [Act.put, List.setIfInBounds_toArray, List.set_cons_zero, List.set_cons_succ, i64_w, i32_w]
           rfl
          refine pure_ (i := 14) (N := some 84) (v := ?_) (a' := ?_) #[true, true, true, false, false, false, true, true, true, true, true, true, false, true, true, false, false, false, false, false] rfl rfl (any_of HT_.out (by kernel_rfl)) (fun _ _ _ h => h) (Or.inl ⟨zq84, ?_⟩) ?_ ?_
          rotate_left
          ·intro w'
           go_simp
           with_reducible rfl
          rotate_left
          ·simp only [Act.put, List.setIfInBounds_toArray, List.set_cons_zero, List.set_cons_succ, i64_w, i32_w]
           rfl
          refine pure_ (i := 15) (N := some 85) (v := ?_) (a' := ?_) #[true, true, true, false, false, false, true, true, true, true, true, true, false, true, true, true, false, false, false, false] rfl rfl (any_of HT_.out (by kernel_rfl)) (fun _ _ _ h => h) (Or.inl ⟨zq84, ?_⟩) ?_ ?_
          rotate_left
          ·intro w'
           go_simp
           with_reducible rfl
          rotate_left
          ·simp only [Act.put, List.setIfInBounds_toArray, List.set_cons_zero, List.set_cons_succ, i64_w, i32_w]
           rfl
          refine take_ (i := 3) (N := some 73) (v := ?_) (a' := ?_) #[true, true, true, true, false, false, true, true, true, true, true, true, false, true, true, true, false, false, false, false] rfl rfl (take_ofW HT_.out HW_.out (by kernel_rfl)) (fun _ _ _ h => h) (Or.inl ⟨zq84, ?_⟩) hHeld ?_ ?_
          rotate_left
          ·intro w' s0
           go_simp
           with_reducible rfl
          rotate_left
          ·simp only [Act.put, List.setIfInBounds_toArray, List.set_cons_zero, List.set_cons_succ, i64_w, i32_w]
           rfl
          refine pure_ (i := 4) (N := some 74) (v := ?_) (a' := ?_) #[true, true, true, true, true, false, true, true, true, true, true, true, false, true, true, true, false, false, false, false] rfl rfl (any_of HT_.out (by kernel_rfl)) (fun _ _ _ h => h) (Or.inl ⟨zq84, ?_⟩) ?_ ?_
          rotate_left
          ·intro w'
           go_simp
           with_reducible rfl
          rotate_left
          ·simp only [Act.put, List.setIfInBounds_toArray, List.set_cons_zero, List.set_cons_succ, i64_w, i32_w]
           rfl
          refine one_ (i := 5) (N := some 75) #[true, true, true, true, true, true, true, true, true, true, true, true, false, true, true, true, false, false, false, false] rfl rfl (one_of HT_.out (by kernel_rfl)) zq39 (fun K hK => ?_)
          refine Kd.R_lit_step (Kd.int .u8) _ 5 ?hg (N := 75) ?hd (xs := ([] : List Int)) (inner := []) (ok := fun _ => True) (okp := fun _ => True) ?hr ?hp (fun _ hk => hk) trivial (Below.refl _ _) (Nat.le_refl _) zq134 ?_; (case hd => rfl); (case hg => rfl); (case hr => first | (go_simp; done) | (go_simp; rfl)); (case hp => exact (Reps.none _ _))
          intro v594 w58 ho59 hb hg_ hnew_
          clear hg_ hnew_
          (first | rw [← Ny593.out] at ho59 | (simp only [Int.reduceToNat] at ho59; rw [← Ny593.out] at ho59))
          have n0_ := zA (Kd.R_lower ho59 (below_size zq0))
          have n1_ := zA (below_step zq0 hb)
          clear HB
          have HO595 := n0_
          have HB := n1_
          clear n0_ n1_
          clear hb ho59
          refine hK.out _ _ (((HB.out.cell (World.block_lt_of_cell? w _ hw592_0)).trans hw592_0)) (fun hHeld => ?_)
          clear hK K
          refine norm_ (a' := ?_) ?_ ?_
          rotate_left
          ·show Act.put _ (some 75) _ = _
           simp only [Act.put, List.setIfInBounds_toArray, List.set_cons_zero, List.set_cons_succ, i64_w, i32_w]
           rfl
          refine one_ (i := 12) (N := some 82) #[true, true, true, true, true, true, true, true, true, true, true, true, true, true, true, true, false, false, false, false] rfl rfl (one_of HT_.out (by kernel_rfl)) zq39 (fun K hK => ?_)
          refine Kd.R_append_rows_step (Kd.int .u8) (w0 := w) w.heap.size zq84 (.tmp 75) (.tmp 81) 22 5 (.int .u8 0) 1 rfl Try.underlying22 info5 rfl zq39 zq144 v594 y593 ((l0.take ((wrap64 ((ji51) + (wrap64 (rd l0 (ji30))))) : Int).toNat).drop ((ji51) : Int).toNat) _ _ _ (fun _ => True) (fun _ => False) rfl rfl ?aO ?aR (fun _ _ h => h) (fun _ h => h.elim) ?aF ?aB ?aS ?aL ?_
          (case aR => first | (rw [← show ((l0.take ((wrap64 ((ji51) + (wrap64 (rd l0 (ji30))))) : Int).toNat).drop ((ji51) : Int).toNat).length = ((wrap64 ((ji51) + (wrap64 (rd l0 (ji30))))).toNat - (ji51).toNat) from zq189]; repeat (first | exact (Kd.C_below HR596.out HB.out) | (with_reducible refine Kd.C_alloc ?_ _) | (with_reducible refine Kd.C_drewN ?_ _) | (with_reducible refine Kd.C_drew ?_))) | (repeat (first | exact (Kd.C_below HR596.out HB.out) | (with_reducible refine Kd.C_alloc ?_ _) | (with_reducible refine Kd.C_drewN ?_ _) | (with_reducible refine Kd.C_drew ?_))))
          (case aB => exact zq0)
          (case aF => exact (fun _ _ => trivial))
          (case aO => exact (by (with_reducible repeat (first | apply Kd.R_alloc | apply Kd.R_drewN | apply Kd.R_drew)); exact HO595.out))
          (case aS => exact (below_size zq0))
          (case aL => have := LMc55.out; have hlx_ := (show ((l0.take ((wrap64 ((ji51) + (wrap64 (rd l0 (ji30))))) : Int).toNat).drop ((ji51) : Int).toNat).length = ((wrap64 ((ji51) + (wrap64 (rd l0 (ji30))))).toNat - (ji51).toNat) from zq189); omega)
          intro v598 w60 ho hb hg hat
          rw [← Ny597.out] at ho
          have n0_ := zA (hb)
          have n1_ := zA (ho)
          clear HB
          clear HO595
          have HB := n0_
          have HO599 := n1_
          clear n0_ n1_
          clear ho hb hg hat
          refine hK.out _ _ (((HB.out.cell (World.block_lt_of_cell? w _ hw592_0)).trans hw592_0)) (fun hHeld => ?_)
          clear hK K
          refine norm_ (a' := ?_) ?_ ?_
          rotate_left
          ·show Act.put _ (some 82) _ = _
           simp only [Act.put, List.setIfInBounds_toArray, List.set_cons_zero, List.set_cons_succ, i64_w, i32_w]
           rfl
          refine pure_ (i := 16) (N := some 4) (v := ?_) (a' := ?_) #[true, true, true, true, true, true, true, true, true, true, true, true, true, true, true, true, true, false, false, false] rfl rfl (any_of HT_.out (by kernel_rfl)) (fun _ _ _ h => h) (Or.inl ⟨zq84, ?_⟩) ?_ ?_
          rotate_left
          ·intro w'
           go_simp
           with_reducible rfl
          rotate_left
          ·simp only [Act.put, List.setIfInBounds_toArray, List.set_cons_zero, List.set_cons_succ, i64_w, i32_w]
           rfl
          refine pure_ (i := 17) (N := some 5) (v := ?_) (a' := ?_) #[true, true, true, true, true, true, true, true, true, true, true, true, true, true, true, true, true, true, false, false] rfl rfl (any_of HT_.out (by kernel_rfl)) (fun _ _ _ h => h) (Or.inl ⟨zq84, ?_⟩) ?_ ?_
          rotate_left
          ·intro w'
           go_simp
           with_reducible rfl
          rotate_left
          ·simp only [Act.put, List.setIfInBounds_toArray, List.set_cons_zero, List.set_cons_succ, i64_w, i32_w]
           rfl
          refine pure_ (i := 18) (N := some 6) (v := ?_) (a' := ?_) #[true, true, true, true, true, true, true, true, true, true, true, true, true, true, true, true, true, true, true, false] rfl rfl (any_of HT_.out (by kernel_rfl)) (fun _ _ _ h => h) (Or.inl ⟨zq84, ?_⟩) ?_ ?_
          rotate_left
          ·intro w'
           go_simp
           with_reducible rfl
          rotate_left
          ·simp only [Act.put, List.setIfInBounds_toArray, List.set_cons_zero, List.set_cons_succ, i64_w, i32_w]
           rfl
          refine pure_ (i := 19) (N := some 7) (v := ?_) (a' := ?_) #[true, true, true, true, true, true, true, true, true, true, true, true, true, true, true, true, true, true, true, true] rfl rfl (any_of HT_.out (by kernel_rfl)) (fun _ _ _ h => h) (Or.inl ⟨zq84, ?_⟩) ?_ ?_
          rotate_left
          ·intro w'
           go_simp
           with_reducible rfl
          rotate_left
          ·simp only [Act.put, List.setIfInBounds_toArray, List.set_cons_zero, List.set_cons_succ, i64_w, i32_w]
           rfl
          refine done_ (done_of HT_.out (by kernel_rfl)) ?_
          try go_wp2
          refine bodyPost_ret (results_list (rs := [.tmp 4, .tmp 5, .tmp 6, .tmp 7]) rfl zq134 (.tmp (.tmp (.tmp (.tmp .nil))))) rfl ?_
          exact ⟨_, (by first | rfl | (simp [errW_none, errW_some] <;> rfl) | (simp only [← hji18, ← hji30, ← hji51]; first | rfl | (simp [errW_none, errW_some] <;> rfl)) | (simp [*, errW_none, errW_some] <;> rfl)), (by (with_reducible repeat (first | apply Kd.R_alloc | apply Kd.R_drewN | apply Kd.R_drew)); exact HO599.out), zq0⟩
     ·rw [if_neg c25] at H
      have c25b0 : ((wrap64 (rd l0 (ji18))) == 129) = false := beq_eq_false_iff_ne.mpr c25
      have c25b1 : ((wrap64 (rd l0 (ji18))) != 129) = true := bne_iff_ne.mpr c25
      have HC61 := zA H
      clear H
      go_upto_region 7 with (fail)
      have H := HC61.out
      clear HC61
      obtain ⟨y600, hy600⟩ : ∃ y_ : List Int, y_ = (([] : List Int)) := ⟨_, rfl⟩
      rw [← hy600] at H
      have Ny600 := zA hy600
      clear hy600
      simp only [Option.some.injEq, Prod.mk.injEq] at H
      obtain ⟨rfl, rfl, rfl, rfl⟩ := H
      go_wp2_with (first | ((with_reducible refine gate_dst (N := 51) rfl ?_); (try (refine gate_guard zq84 ?_; dsimp only)); refine Kd.R_lit (Kd.int .u8) _ 5 ?hg (N := 51) ?hd (xs := ([] : List Int)) (inner := []) (ok := fun _ => True) (okp := fun _ => True) ?hr ?hp (fun _ hk => hk) trivial (Below.refl _ _) (Nat.le_refl _) zq134 ?_; (case hd => rfl); (case hg => rfl); (case hr => first | (go_simp; done) | (go_simp; rfl)); (case hp => exact (Reps.none _ _)); intro v601 w62 ho63 hb hg_ hnew_; clear hg_ hnew_; (first | rw [← Ny600.out] at ho63 | (simp only [Int.reduceToNat] at ho63; rw [← Ny600.out] at ho63)); have HO602 := zA (Kd.R_lower ho63 (below_size zq0)); replace HB := zA (below_step zq0 hb); clear hb ho63))
      refine bodyPost_ret (results_list (rs := [.tmp 4, .tmp 5, .tmp 6, .tmp 7]) rfl zq134 (.tmp (.tmp (.tmp (.tmp .nil))))) rfl ?_
      exact ⟨_, zq131, (by (with_reducible repeat (first | apply Kd.R_alloc | apply Kd.R_drewN | apply Kd.R_drew)); exact HO602.out), zq0⟩
    ·rw [if_neg c23] at H
     have c23b0 : decide (127 < (wrap64 (rd l0 (ji18)))) = false := decide_eq_false c23
     clear c23
     have HC64 := zA H
     clear H
     go_upto_region 10 with (fail)
     have H := HC64.out
     clear HC64
     by_cases c65 : (wrap64 (rd l0 (ji18))) > 250
     ·rw [if_pos c65] at H
      have c65b0 : decide (250 < (wrap64 (rd l0 (ji18)))) = true := decide_eq_true c65
      clear c65
      have HC66 := zA H
      clear H
      go_upto_region 11 with (fail)
      have H := HC66.out
      clear HC66
      obtain ⟨y603, hy603⟩ : ∃ y_ : List Int, y_ = (([] : List Int)) := ⟨_, rfl⟩
      rw [← hy603] at H
      have Ny603 := zA hy603
      clear hy603
      simp only [Option.some.injEq, Prod.mk.injEq] at H
      obtain ⟨rfl, rfl, rfl, rfl⟩ := H
      go_wp2_with (first | ((with_reducible refine gate_dst (N := 69) rfl ?_); (try (refine gate_guard zq84 ?_; dsimp only)); refine Kd.R_lit (Kd.int .u8) _ 5 ?hg (N := 69) ?hd (xs := ([] : List Int)) (inner := []) (ok := fun _ => True) (okp := fun _ => True) ?hr ?hp (fun _ hk => hk) trivial (Below.refl _ _) (Nat.le_refl _) zq134 ?_; (case hd => rfl); (case hg => rfl); (case hr => first | (go_simp; done) | (go_simp; rfl)); (case hp => exact (Reps.none _ _)); intro v604 w67 ho68 hb hg_ hnew_; clear hg_ hnew_; (first | rw [← Ny603.out] at ho68 | (simp only [Int.reduceToNat] at ho68; rw [← Ny603.out] at ho68)); have HO605 := zA (Kd.R_lower ho68 (below_size zq0)); replace HB := zA (below_step zq0 hb); clear hb ho68))
      refine bodyPost_ret (results_list (rs := [.tmp 4, .tmp 5, .tmp 6, .tmp 7]) rfl zq134 (.tmp (.tmp (.tmp (.tmp .nil))))) rfl ?_
      exact ⟨_, zq131, (by (with_reducible repeat (first | apply Kd.R_alloc | apply Kd.R_drewN | apply Kd.R_drew)); exact HO605.out), zq0⟩
     ·rw [if_neg c65] at H
      have c65b0 : decide (250 < (wrap64 (rd l0 (ji18)))) = false := decide_eq_false c65
      clear c65
      by_cases c69 : (wrap64 (rd l0 (ji18))) > (wrap64 ((l0.length : Int) - (wrap64 (a1 + 2))))
      ·rw [if_pos c69] at H
       have c69b0 : decide ((wrap64 ((l0.length : Int) - (wrap64 (a1 + 2)))) < (wrap64 (rd l0 (ji18)))) = true := decide_eq_true c69
       clear c69
       have HC70 := zA H
       clear H
       go_upto_region 11 with (fail)
       have H := HC70.out
       clear HC70
       obtain ⟨y606, hy606⟩ : ∃ y_ : List Int, y_ = (([] : List Int)) := ⟨_, rfl⟩
       rw [← hy606] at H
       have Ny606 := zA hy606
       clear hy606
       simp only [Option.some.injEq, Prod.mk.injEq] at H
       obtain ⟨rfl, rfl, rfl, rfl⟩ := H
       go_wp2_with (first | ((with_reducible refine gate_dst (N := 69) rfl ?_); (try (refine gate_guard zq84 ?_; dsimp only)); refine Kd.R_lit (Kd.int .u8) _ 5 ?hg (N := 69) ?hd (xs := ([] : List Int)) (inner := []) (ok := fun _ => True) (okp := fun _ => True) ?hr ?hp (fun _ hk => hk) trivial (Below.refl _ _) (Nat.le_refl _) zq134 ?_; (case hd => rfl); (case hg => rfl); (case hr => first | (go_simp; done) | (go_simp; rfl)); (case hp => exact (Reps.none _ _)); intro v607 w71 ho72 hb hg_ hnew_; clear hg_ hnew_; (first | rw [← Ny606.out] at ho72 | (simp only [Int.reduceToNat] at ho72; rw [← Ny606.out] at ho72)); have HO608 := zA (Kd.R_lower ho72 (below_size zq0)); replace HB := zA (below_step zq0 hb); clear hb ho72))
       refine bodyPost_ret (results_list (rs := [.tmp 4, .tmp 5, .tmp 6, .tmp 7]) rfl zq134 (.tmp (.tmp (.tmp (.tmp .nil))))) rfl ?_
       exact ⟨_, zq131, (by (with_reducible repeat (first | apply Kd.R_alloc | apply Kd.R_drewN | apply Kd.R_drew)); exact HO608.out), zq0⟩
      ·rw [if_neg c69] at H
       have c69b0 : decide ((wrap64 ((l0.length : Int) - (wrap64 (a1 + 2)))) < (wrap64 (rd l0 (ji18)))) = false := decide_eq_false c69
       clear c69
       have HC73 := zA H
       clear H
       go_upto_region 12 with (fail)
       have H := HC73.out
       clear HC73
       obtain ⟨c74, H⟩ := zN H
       have c74b0 : decide (0 ≤ a1) = true := decide_eq_true c74
       clear c74
       obtain ⟨c75, H⟩ := zN H
       have c75b0 : decide (a1 < (l0.length : Int)) = true := decide_eq_true c75
       clear c75
       obtain ⟨y610, Ny610, H⟩ := zS (([] : List Int)) H
       obtain ⟨ji76, hji76⟩ : ∃ j_ : Int, (wrap64 (a1 + 2)) = j_ := ⟨_, rfl⟩
       replace H : (if 0 ≤ (ji76) then (if (ji76) ≤ (wrap64 ((ji76) + (wrap64 (rd l0 (ji18))))) then (if (wrap64 ((ji76) + (wrap64 (rd l0 (ji18))))) ≤ (l0.length : Int) then (if y610.length + ((l0.take ((wrap64 ((ji76) + (wrap64 (rd l0 (ji18))))) : Int).toNat).drop ((ji76) : Int).toNat).length < 140737488355328 then (some (wrap64 (rd l0 a1), (y610 ++ ((l0.take ((wrap64 ((ji76) + (wrap64 (rd l0 (ji18))))) : Int).toNat).drop ((ji76) : Int).toNat)), wrap64 ((ji76) + (wrap64 (rd l0 (ji18)))), true)) else (none)) else (none)) else (none)) else (none)) = some (r1, r2, r3, r4) := by first | (rw [hji76] at H; exact H) | (simp only [hji76] at H ⊢; exact H)
       (try rw [hji76] at c69b0)
       have hji76w : (IntKind.i64.wrap (a1 + 2)) = ji76 := (i64_w _).trans hji76
       obtain ⟨c77, H⟩ := zN H
       have c77b0 := eq_true c77
       have c77b1 : decide (0 ≤ (ji76)) = true := decide_eq_true c77
       clear c77
       obtain ⟨c78, H⟩ := zN H
       have c78b0 := eq_true c78
       have c78b1 : decide ((ji76) ≤ (wrap64 ((ji76) + (wrap64 (rd l0 (ji18)))))) = true := decide_eq_true c78
       obtain ⟨c79, H⟩ := zN H
       have c79b0 := eq_true c79
       have c79b1 : decide ((wrap64 ((ji76) + (wrap64 (rd l0 (ji18))))) ≤ (l0.length : Int)) = true := decide_eq_true c79
       obtain ⟨c80, H⟩ := zN H
       have LMc80 := zA c80
       clear c80
       obtain ⟨y614, hy614⟩ : ∃ y_ : List Int, y_ = (y610 ++ ((l0.take ((wrap64 ((ji76) + (wrap64 (rd l0 (ji18))))) : Int).toNat).drop ((ji76) : Int).toNat)) := ⟨_, rfl⟩
       rw [← hy614] at H
       have Ny614 := zA hy614
       clear hy614
       simp only [Option.some.injEq, Prod.mk.injEq] at H
       obtain ⟨rfl, rfl, rfl, rfl⟩ := H
       try go_wp2
       have n0_ := zA (below_drew1 HB.out)
       clear HB
       have HB := n0_
       clear n0_
       have p609 : 0 ≤ (a1 : Int) := of_decide_eq_true zq7
       have q609 : a1 < (l0.length : Int) := of_decide_eq_true zq7
       obtain ⟨ad609, e609, hx609_0⟩ := Kd.at_int HR0.out a1 p609 q609
       have hw609_0 := hx609_0
       obtain rfl : ad577 = ad609 := (by injection e609)
       replace hx609_0 := (HB.out.cell (World.block_lt_of_cell? w _ hx609_0)).trans hx609_0
       replace p609 := eq_true p609
       replace q609 := eq_true q609
       obtain ⟨i082, hi082, _, hsz82, _⟩ := info_parts info5
       obtain ⟨A82, hcut82, hA82, hC82⟩ := print_mid_of (P := Try.prog) (Value.int .u8) 0 22 5 .i64 .i64 Try.underlying22 hi082 hsz82 (some ad577) c0 l0 (ji76) (wrap64 ((ji76) + (wrap64 (rd l0 (ji18))))) (of_decide_eq_true zq7) zq163 (of_decide_eq_true zq7) HC0.out
       have HR613 := zA (Kd.C_of_reads (h1 := fun _ => rfl) (hA82 _ (Kd.reads_of_C HR0.out)))
       have HC613 := zA hC82
       clear hA82 hC82 hi082 hsz82
       refine start_ (n := 20) (S := fun w' => w'.cell? (ad577.add (a1).toNat) = some (.int .u8 (rd l0 a1))) (ds := []) #[false, false, false, false, false, false, false, false, false, false, false, false, false, false, false, false, false, false, false, false] (by kernel_rfl) rfl rfl (((HB.out.cell (World.block_lt_of_cell? w _ hw609_0)).trans hw609_0)) (fun hHeld => ?_); refine with_tabW spec_GetTlv.tab12 spec_GetTlv.bits12 (fun HT_ HW_ => ?_)
       generalize w.drew = w81 at HB HR613 hx609_0 hHeld ⊢
       refine pure_ (i := 0) (N := some 70) (v := ?_) (a' := ?_) #[true, false, false, false, false, false, false, false, false, false, false, false, false, false, false, false, false, false, false, false] rfl rfl (any_of HT_.out (by kernel_rfl)) (fun _ _ _ h => h) (Or.inl ⟨zq84, ?_⟩) ?_ ?_
       rotate_left
       ·intro w'
        go_simp
        with_reducible rfl
       rotate_left
       ·simp only [Act.put, List.setIfInBounds_toArray, List.set_cons_zero, List.set_cons_succ, i64_w, i32_w]
        rfl
       refine pure_ (i := 1) (N := some 71) (v := ?_) (a' := ?_) #[true, true, false, false, false, false, false, false, false, false, false, false, false, false, false, false, false, false, false, false] rfl rfl (any_of HT_.out (by kernel_rfl)) (fun _ _ _ h => h) (Or.inl ⟨zq84, ?_⟩) ?_ ?_
       rotate_left
       ·intro w'
        go_simp
        with_reducible rfl
       rotate_left
       ·simp only [Act.put, List.setIfInBounds_toArray, List.set_cons_zero, List.set_cons_succ, i64_w, i32_w]
        rfl
       refine pure_ (i := 2) (N := some 72) (v := ?_) (a' := ?_) #[true, true, true, false, false, false, false, false, false, false, false, false, false, false, false, false, false, false, false, false] rfl rfl (any_of HT_.out (by kernel_rfl)) (fun _ _ _ h => h) (Or.inl ⟨zq84, ?_⟩) ?_ ?_
       rotate_left
       ·intro w'
        go_simp
        with_reducible rfl
       rotate_left
       ·simp only [Act.put, List.setIfInBounds_toArray, List.set_cons_zero, List.set_cons_succ, i64_w, i32_w]
        rfl
       refine pure_ (i := 6) (N := some 76) (v := ?_) (a' := ?_) #[true, true, true, false, false, false, true, false, false, false, false, false, false, false, false, false, false, false, false, false] rfl rfl (any_of HT_.out (by kernel_rfl)) (fun _ _ _ h => h) (Or.inl ⟨zq84, ?_⟩) ?_ ?_
       rotate_left
       ·intro w'
        go_simp
        with_reducible rfl
       rotate_left
       ·simp only [Act.put, List.setIfInBounds_toArray, List.set_cons_zero, List.set_cons_succ, i64_w, i32_w]
        rfl
       refine pure_ (i := 7) (N := some 77) (v := ?_) (a' := ?_) #[true, true, true, false, false, false, true, true, false, false, false, false, false, false, false, false, false, false, false, false] rfl rfl (any_of HT_.out (by kernel_rfl)) (fun _ _ _ h => h) (Or.inl ⟨zq84, ?_⟩) ?_ ?_
       rotate_left
       ·intro w'
        go_simp
        with_reducible rfl
       rotate_left
       ·simp only [Act.put, List.setIfInBounds_toArray, List.set_cons_zero, List.set_cons_succ, i64_w, i32_w]
        rfl
       refine pure_ (i := 8) (N := some 78) (v := ?_) (a' := ?_) #[true, true, true, false, false, false, true, true, true, false, false, false, false, false, false, false, false, false, false, false] rfl rfl (any_of HT_.out (by kernel_rfl)) (fun _ _ _ h => h) (Or.inl ⟨zq84, ?_⟩) ?_ ?_
       rotate_left
       ·intro w'
        go_simp
        with_reducible rfl
       rotate_left
       ·simp only [Act.put, List.setIfInBounds_toArray, List.set_cons_zero, List.set_cons_succ, i64_w, i32_w]
        rfl
       refine pure_ (i := 9) (N := some 79) (v := ?_) (a' := ?_) #[true, true, true, false, false, false, true, true, true, true, false, false, false, false, false, false, false, false, false, false] rfl rfl (any_of HT_.out (by kernel_rfl)) (fun _ _ _ h => h) (Or.inl ⟨zq84, ?_⟩) ?_ ?_
       rotate_left
       ·intro w'
        go_simp
        with_reducible rfl
       rotate_left
       ·simp only [Act.put, List.setIfInBounds_toArray, List.set_cons_zero, List.set_cons_succ, i64_w, i32_w]
        rfl
       refine pure_ (i := 10) (N := some 80) (v := ?_) (a' := ?_) #[true, true, true, false, false, false, true, true, true, true, true, false, false, false, false, false, false, false, false, false] rfl rfl (any_of HT_.out (by kernel_rfl)) (fun _ _ _ h => h) (Or.inl ⟨zq84, ?_⟩) ?_ ?_
       rotate_left
       ·intro w'
        go_simp
        with_reducible rfl
       rotate_left
       ·simp only [Act.put, List.setIfInBounds_toArray, List.set_cons_zero, List.set_cons_succ, i64_w, i32_w]
        rfl
       refine pure_ (i := 11) (N := some 81) (v := ?_) (a' := ?_) #[true, true, true, false, false, false, true, true, true, true, true, true, false, false, false, false, false, false, false, false] rfl rfl (any_of HT_.out (by kernel_rfl)) (fun _ _ _ h => h) (Or.inl ⟨zq84, ?_⟩) ?_ ?_
       rotate_left
       ·intro w'
        go_simp
        with_reducible rfl
       rotate_left
       ·simp only [Act.put, List.setIfInBounds_toArray, List.set_cons_zero, List.set_cons_succ, i64_w, i32_w]
        rfl
       refine pure_ (i := 13) (N := some 83) (v := ?_) (a' := ?_) #[true, true, true, false, false, false, true, true, true, true, true, true, false, true, false, false, false, false, false, false] rfl rfl (any_of HT_.out (by kernel_rfl)) (fun _ _ _ h => h) (Or.inl ⟨zq84, ?_⟩) ?_ ?_
       rotate_left
       ·intro w'
        go_simp
        with_reducible rfl
       rotate_left
       ·simp only [Act.put, List.setIfInBounds_toArray, List.set_cons_zero, List.set_cons_succ, i64_w, i32_w]
        rfl
       refine pure_ (i := 14) (N := some 84) (v := ?_) (a' := ?_) #[true, true, true, false, false, false, true, true, true, true, true, true, false, true, true, false, false, false, false, false] rfl rfl (any_of HT_.out (by kernel_rfl)) (fun _ _ _ h => h) (Or.inl ⟨zq84, ?_⟩) ?_ ?_
       rotate_left
       ·intro w'
        go_simp
        with_reducible rfl
       rotate_left
       ·simp only [Act.put, List.setIfInBounds_toArray, List.set_cons_zero, List.set_cons_succ, i64_w, i32_w]
        rfl
       refine pure_ (i := 15) (N := some 85) (v := ?_) (a' := ?_) #[true, true, true, false, false, false, true, true, true, true, true, true, false, true, true, true, false, false, false, false] rfl rfl (any_of HT_.out (by kernel_rfl)) (fun _ _ _ h => h) (Or.inl ⟨zq84, ?_⟩) ?_ ?_
       rotate_left
       ·intro w'
        go_simp
        with_reducible rfl
       rotate_left
       ·simp only [Act.put, List.setIfInBounds_toArray, List.set_cons_zero, List.set_cons_succ, i64_w, i32_w]
        rfl
       refine take_ (i := 3) (N := some 73) (v := ?_) (a' := ?_) #[true, true, true, true, false, false, true, true, true, true, true, true, false, true, true, true, false, false, false, false] rfl rfl (take_ofW HT_.out HW_.out (by kernel_rfl)) (fun _ _ _ h => h) (Or.inl ⟨zq84, ?_⟩) hHeld ?_ ?_
       rotate_left
       ·intro w' s0
        go_simp
        with_reducible rfl
       rotate_left
       ·simp only [Act.put, List.setIfInBounds_toArray, List.set_cons_zero, List.set_cons_succ, i64_w, i32_w]
        rfl
       refine pure_ (i := 4) (N := some 74) (v := ?_) (a' := ?_) #[true, true, true, true, true, false, true, true, true, true, true, true, false, true, true, true, false, false, false, false] rfl rfl (any_of HT_.out (by kernel_rfl)) (fun _ _ _ h => h) (Or.inl ⟨zq84, ?_⟩) ?_ ?_
       rotate_left
       ·intro w'
        go_simp
        with_reducible rfl
       rotate_left
       ·simp only [Act.put, List.setIfInBounds_toArray, List.set_cons_zero, List.set_cons_succ, i64_w, i32_w]
        rfl
       refine one_ (i := 5) (N := some 75) #[true, true, true, true, true, true, true, true, true, true, true, true, false, true, true, true, false, false, false, false] rfl rfl (one_of HT_.out (by kernel_rfl)) zq39 (fun K hK => ?_)
       refine Kd.R_lit_step (Kd.int .u8) _ 5 ?hg (N := 75) ?hd (xs := ([] : List Int)) (inner := []) (ok := fun _ => True) (okp := fun _ => True) ?hr ?hp (fun _ hk => hk) trivial (Below.refl _ _) (Nat.le_refl _) zq134 ?_; (case hd => rfl); (case hg => rfl); (case hr => first | (go_simp; done) | (go_simp; rfl)); (case hp => exact (Reps.none _ _))
       intro v611 w83 ho84 hb hg_ hnew_
       clear hg_ hnew_
       (first | rw [← Ny610.out] at ho84 | (simp only [Int.reduceToNat] at ho84; rw [← Ny610.out] at ho84))
       have n0_ := zA (Kd.R_lower ho84 (below_size zq0))
       have n1_ := zA (below_step zq0 hb)
       clear HB
       have HO612 := n0_
       have HB := n1_
       clear n0_ n1_
       clear hb ho84
       refine hK.out _ _ (((HB.out.cell (World.block_lt_of_cell? w _ hw609_0)).trans hw609_0)) (fun hHeld => ?_)
       clear hK K
       refine norm_ (a' := ?_) ?_ ?_
       rotate_left
       ·show Act.put _ (some 75) _ = _
        simp only [Act.put, List.setIfInBounds_toArray, List.set_cons_zero, List.set_cons_succ, i64_w, i32_w]
        rfl
       refine one_ (i := 12) (N := some 82) #[true, true, true, true, true, true, true, true, true, true, true, true, true, true, true, true, false, false, false, false] rfl rfl (one_of HT_.out (by kernel_rfl)) zq39 (fun K hK => ?_)
       refine Kd.R_append_rows_step (Kd.int .u8) (w0 := w) w.heap.size zq84 (.tmp 75) (.tmp 81) 22 5 (.int .u8 0) 1 rfl Try.underlying22 info5 rfl zq39 zq144 v611 y610 ((l0.take ((wrap64 ((ji76) + (wrap64 (rd l0 (ji18))))) : Int).toNat).drop ((ji76) : Int).toNat) _ _ _ (fun _ => True) (fun _ => False) rfl rfl ?aO ?aR (fun _ _ h => h) (fun _ h => h.elim) ?aF ?aB ?aS ?aL ?_
       (case aR => first | (rw [← show ((l0.take ((wrap64 ((ji76) + (wrap64 (rd l0 (ji18))))) : Int).toNat).drop ((ji76) : Int).toNat).length = ((wrap64 ((ji76) + (wrap64 (rd l0 (ji18))))).toNat - (ji76).toNat) from zq190]; repeat (first | exact (Kd.C_below HR613.out HB.out) | (with_reducible refine Kd.C_alloc ?_ _) | (with_reducible refine Kd.C_drewN ?_ _) | (with_reducible refine Kd.C_drew ?_))) | (repeat (first | exact (Kd.C_below HR613.out HB.out) | (with_reducible refine Kd.C_alloc ?_ _) | (with_reducible refine Kd.C_drewN ?_ _) | (with_reducible refine Kd.C_drew ?_))))
       (case aB => exact zq0)
       (case aF => exact (fun _ _ => trivial))
       (case aO => exact (by (with_reducible repeat (first | apply Kd.R_alloc | apply Kd.R_drewN | apply Kd.R_drew)); exact HO612.out))
       (case aS => exact (below_size zq0))
       (case aL => have := LMc80.out; have hlx_ := (show ((l0.take ((wrap64 ((ji76) + (wrap64 (rd l0 (ji18))))) : Int).toNat).drop ((ji76) : Int).toNat).length = ((wrap64 ((ji76) + (wrap64 (rd l0 (ji18))))).toNat - (ji76).toNat) from zq190); omega)
       intro v615 w85 ho hb hg hat
       rw [← Ny614.out] at ho
       have n0_ := zA (hb)
       have n1_ := zA (ho)
       clear HB
       clear HO612
       have HB := n0_
       have HO616 := n1_
       clear n0_ n1_
       clear ho hb hg hat
       refine hK.out _ _ (((HB.out.cell (World.block_lt_of_cell? w _ hw609_0)).trans hw609_0)) (fun hHeld => ?_)
       clear hK K
       refine norm_ (a' := ?_) ?_ ?_
       rotate_left
       ·show Act.put _ (some 82) _ = _
        simp only [Act.put, List.setIfInBounds_toArray, List.set_cons_zero, List.set_cons_succ, i64_w, i32_w]
        rfl
       refine pure_ (i := 16) (N := some 4) (v := ?_) (a' := ?_) #[true, true, true, true, true, true, true, true, true, true, true, true, true, true, true, true, true, false, false, false] rfl rfl (any_of HT_.out (by kernel_rfl)) (fun _ _ _ h => h) (Or.inl ⟨zq84, ?_⟩) ?_ ?_
       rotate_left
       ·intro w'
        go_simp
        with_reducible rfl
       rotate_left
       ·simp only [Act.put, List.setIfInBounds_toArray, List.set_cons_zero, List.set_cons_succ, i64_w, i32_w]
        rfl
       refine pure_ (i := 17) (N := some 5) (v := ?_) (a' := ?_) #[true, true, true, true, true, true, true, true, true, true, true, true, true, true, true, true, true, true, false, false] rfl rfl (any_of HT_.out (by kernel_rfl)) (fun _ _ _ h => h) (Or.inl ⟨zq84, ?_⟩) ?_ ?_
       rotate_left
       ·intro w'
        go_simp
        with_reducible rfl
       rotate_left
       ·simp only [Act.put, List.setIfInBounds_toArray, List.set_cons_zero, List.set_cons_succ, i64_w, i32_w]
        rfl
       refine pure_ (i := 18) (N := some 6) (v := ?_) (a' := ?_) #[true, true, true, true, true, true, true, true, true, true, true, true, true, true, true, true, true, true, true, false] rfl rfl (any_of HT_.out (by kernel_rfl)) (fun _ _ _ h => h) (Or.inl ⟨zq84, ?_⟩) ?_ ?_
       rotate_left
       ·intro w'
        go_simp
        with_reducible rfl
       rotate_left
       ·simp only [Act.put, List.setIfInBounds_toArray, List.set_cons_zero, List.set_cons_succ, i64_w, i32_w]
        rfl
       refine pure_ (i := 19) (N := some 7) (v := ?_) (a' := ?_) #[true, true, true, true, true, true, true, true, true, true, true, true, true, true, true, true, true, true, true, true] rfl rfl (any_of HT_.out (by kernel_rfl)) (fun _ _ _ h => h) (Or.inl ⟨zq84, ?_⟩) ?_ ?_
       rotate_left
       ·intro w'
        go_simp
        with_reducible rfl
       rotate_left
       ·simp only [Act.put, List.setIfInBounds_toArray, List.set_cons_zero, List.set_cons_succ, i64_w, i32_w]
        rfl
       refine done_ (done_of HT_.out (by kernel_rfl)) ?_
       try go_wp2
       refine bodyPost_ret (results_list (rs := [.tmp 4, .tmp 5, .tmp 6, .tmp 7]) rfl zq134 (.tmp (.tmp (.tmp (.tmp .nil))))) rfl ?_
       exact ⟨_, (by first | rfl | (simp [errW_none, errW_some] <;> rfl) | (simp only [← hji18, ← hji76]; first | rfl | (simp [errW_none, errW_some] <;> rfl)) | (simp [*, errW_none, errW_some] <;> rfl)), (by (with_reducible repeat (first | apply Kd.R_alloc | apply Kd.R_drewN | apply Kd.R_drew)); exact HO616.out), zq0⟩

end Go.Proofs.Ytkcgghgkmgbphaa.PFnVals
