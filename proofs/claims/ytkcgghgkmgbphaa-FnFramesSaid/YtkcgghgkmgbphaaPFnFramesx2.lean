-- WRITTEN BY a turned copy of the kit's printer (wip/patch_print.py), for this claim
import Derived.Test.YtkcgghgkmgbphaaPFnFramesx0
namespace Go.Proofs.Ytkcgghgkmgbphaa.PFnFrames
open Go.RowKit Go.Proofs.YtkcgghgkmgbphaaW.PrintWords Go.Proofs.YtkcgghgkmgbphaaW.PrintLast Go.Proofs.YtkcgghgkmgbphaaW.PrintMore
attribute [local go_sem] max2_int min2_int max_two min_two max_three min_three max_four min_four   -- for this text's walks alone
set_option linter.unusedVariables false
set_option linter.unusedSimpArgs false

/-! ### spec_GetTlv: function 117 -/
def spec_GetTlv.f (l0 : List Int) (a1 : Int) : Option (Int × List Int × Int × Bool) := if a1 < 0 then (some (0, (([] : List Int)), 0, false)) else (if a1 ≥ (l0.length : Int) then (some (0, (([] : List Int)), 0, false)) else (if (wrap64 (a1 + 1)) ≥ (l0.length : Int) then (some (0, (([] : List Int)), 0, false)) else (if 0 ≤ (wrap64 (a1 + 1)) then (if (wrap64 (a1 + 1)) < (l0.length : Int) then (if (wrap64 (rd l0 (wrap64 (a1 + 1)))) > 127 then (if (wrap64 (rd l0 (wrap64 (a1 + 1)))) = 129 then (if (wrap64 (a1 + 2)) ≥ (l0.length : Int) then (some (0, (([] : List Int)), 0, false)) else (if 0 ≤ (wrap64 (a1 + 2)) then (if (wrap64 (a1 + 2)) < (l0.length : Int) then (if (rd l0 (wrap64 (a1 + 2))) < 128 then (some (0, (([] : List Int)), 0, false)) else (if (wrap64 (rd l0 (wrap64 (a1 + 2)))) > 250 then (some (0, (([] : List Int)), 0, false)) else (if (wrap64 (rd l0 (wrap64 (a1 + 2)))) > (wrap64 ((l0.length : Int) - (wrap64 ((wrap64 (a1 + 2)) + 1)))) then (some (0, (([] : List Int)), 0, false)) else (if 0 ≤ a1 then (if a1 < (l0.length : Int) then ((some (([] : List Int) : List Int)).bind fun y132 => (if 0 ≤ (wrap64 ((wrap64 (a1 + 2)) + 1)) then (if (wrap64 ((wrap64 (a1 + 2)) + 1)) ≤ (wrap64 ((wrap64 ((wrap64 (a1 + 2)) + 1)) + (wrap64 (rd l0 (wrap64 (a1 + 2)))))) then (if (wrap64 ((wrap64 ((wrap64 (a1 + 2)) + 1)) + (wrap64 (rd l0 (wrap64 (a1 + 2)))))) ≤ (l0.length : Int) then (if y132.length + ((l0.take ((wrap64 ((wrap64 ((wrap64 (a1 + 2)) + 1)) + (wrap64 (rd l0 (wrap64 (a1 + 2)))))) : Int).toNat).drop ((wrap64 ((wrap64 (a1 + 2)) + 1)) : Int).toNat).length < 140737488355328 then (some (wrap64 (rd l0 a1), (y132 ++ ((l0.take ((wrap64 ((wrap64 ((wrap64 (a1 + 2)) + 1)) + (wrap64 (rd l0 (wrap64 (a1 + 2)))))) : Int).toNat).drop ((wrap64 ((wrap64 (a1 + 2)) + 1)) : Int).toNat)), wrap64 ((wrap64 ((wrap64 (a1 + 2)) + 1)) + (wrap64 (rd l0 (wrap64 (a1 + 2))))), true)) else (none)) else (none)) else (none)) else (none))) else (none)) else (none))))) else (none)) else (none))) else (some (0, (([] : List Int)), 0, false))) else (if (wrap64 (rd l0 (wrap64 (a1 + 1)))) > 250 then (some (0, (([] : List Int)), 0, false)) else (if (wrap64 (rd l0 (wrap64 (a1 + 1)))) > (wrap64 ((l0.length : Int) - (wrap64 (a1 + 2)))) then (some (0, (([] : List Int)), 0, false)) else (if 0 ≤ a1 then (if a1 < (l0.length : Int) then ((some (([] : List Int) : List Int)).bind fun y149 => (if 0 ≤ (wrap64 (a1 + 2)) then (if (wrap64 (a1 + 2)) ≤ (wrap64 ((wrap64 (a1 + 2)) + (wrap64 (rd l0 (wrap64 (a1 + 1)))))) then (if (wrap64 ((wrap64 (a1 + 2)) + (wrap64 (rd l0 (wrap64 (a1 + 1)))))) ≤ (l0.length : Int) then (if y149.length + ((l0.take ((wrap64 ((wrap64 (a1 + 2)) + (wrap64 (rd l0 (wrap64 (a1 + 1)))))) : Int).toNat).drop ((wrap64 (a1 + 2)) : Int).toNat).length < 140737488355328 then (some (wrap64 (rd l0 a1), (y149 ++ ((l0.take ((wrap64 ((wrap64 (a1 + 2)) + (wrap64 (rd l0 (wrap64 (a1 + 1)))))) : Int).toNat).drop ((wrap64 (a1 + 2)) : Int).toNat)), wrap64 ((wrap64 (a1 + 2)) + (wrap64 (rd l0 (wrap64 (a1 + 1))))), true)) else (none)) else (none)) else (none)) else (none))) else (none)) else (none))))) else (none)) else (none))))
def spec_GetTlv.T12 : Bool × List (List Nat × List Nat) := (true, [([], []), ([], []), ([0, 1], [0, 1]), ([2], [2]), ([3], [3]), ([], []), ([], []), ([], []), ([], []), ([], []), ([8, 9], [8, 9]), ([6, 7, 10], [6, 7, 10]), ([5, 11], [5, 11]), ([], []), ([], []), ([13, 14], [13, 14]), ([4, 12, 0, 1, 2, 3, 4], [4]), ([12, 16, 0, 1, 2, 3, 4, 5, 6, 7, 8, 9, 10, 11, 12, 16], [12]), ([15, 17, 0, 1, 2, 3, 4, 5, 6, 7, 8, 9, 10, 11, 12, 13, 14, 15, 16, 17], [15]), ([18, 0, 1, 2, 3, 4, 5, 6, 7, 8, 9, 10, 11, 12, 13, 14, 15, 16, 17, 18], [])])
def spec_GetTlv.B12 : List Nat := [0, 0, 3, 7, 15, 0, 0, 0, 0, 0, 768, 1984, 4064, 0, 0, 24576, 8191, 73727, 262143, 524287]
theorem spec_GetTlv.tab12 : rtab .any (opsOf Try.f117 12) = spec_GetTlv.T12 := by kernel_rfl
theorem spec_GetTlv.bits12 : waitsOk spec_GetTlv.T12.2 spec_GetTlv.B12 = true := by kernel_rfl
set_option maxHeartbeats 8000000 in
set_option maxRecDepth 100000 in
theorem spec_GetTlv.calls (A0 : Option Addr) (c0 : Nat) (l0 : List Int) (a1 : Int) (r1 : Int) (r2 : List Int) (r3 : Int) (r4 : Bool) (w : World) (hr0 : Kd.C (Kd.int .u8) w A0 l0.length l0) (hc0 : l0.length ≤ c0) (h : spec_GetTlv.f l0 a1 = some (r1, r2, r3, r4)) :
  Calls Try.prog 117 #[.slice A0 l0.length c0, .int .i64 a1] w fun e w' => ∃ v1_ : Value, e = .returned (.tuple #[.int .i64 r1, v1_, .int .i64 r3, .bool r4]) ∧ Kd.R (Kd.int .u8) 5 w' w.heap.size (fun _ => True) v1_ r2 ∧ Below w.heap.size w w' := by
 have HR0 := zA hr0
 have HC0 := zA hc0
 clear hr0 hc0
 have HB := zA (Below.refl w.heap.size w)
 unfold spec_GetTlv.f at h
 have H := h
 clear h
 have HC3 := zA H
 clear H
 go_enter Try.func117, Try.ntmps117
 go_upto_region 0 with (fail)
 have H := HC3.out
 clear HC3
 have HC4 := zA H
 clear H
 go_upto_region 1 with (fail)
 have H := HC4.out
 clear HC4
 by_cases c5 : a1 < 0
 ·rw [if_pos c5] at H
  have c5b0 : decide (a1 < 0) = true := decide_eq_true c5
  clear c5
  have HC6 := zA H
  clear H
  go_upto_region 2 with (fail)
  have H := HC6.out
  clear HC6
  obtain ⟨y107, hy107⟩ : ∃ y_ : List Int, y_ = (([] : List Int)) := ⟨_, rfl⟩
  rw [← hy107] at H
  have Ny107 := zA hy107
  clear hy107
  simp only [Option.some.injEq, Prod.mk.injEq] at H
  obtain ⟨rfl, rfl, rfl, rfl⟩ := H
  go_wp2_with (first | ((with_reducible refine gate_dst (N := 25) rfl ?_); (try (refine gate_guard zq110 ?_; dsimp only)); refine Kd.R_lit (Kd.int .u8) _ 5 ?hg (N := 25) ?hd (xs := ([] : List Int)) (inner := []) (ok := fun _ => True) (okp := fun _ => True) ?hr ?hp (fun _ hk => hk) trivial (Below.refl _ _) (Nat.le_refl _) zq125 ?_; (case hd => rfl); (case hg => rfl); (case hr => first | (go_simp; done) | (go_simp; rfl)); (case hp => exact (Reps.none _ _)); intro v108 w7 ho8 hb hg_ hnew_; clear hg_ hnew_; (first | rw [← Ny107.out] at ho8 | (simp only [Int.reduceToNat] at ho8; rw [← Ny107.out] at ho8)); have HO109 := zA (Kd.R_lower ho8 (below_size zq0)); replace HB := zA (below_step zq0 hb); clear hb ho8))
  refine bodyPost_ret (results_list (rs := [.tmp 4, .tmp 5, .tmp 6, .tmp 7]) rfl zq125 (.tmp (.tmp (.tmp (.tmp .nil))))) rfl ?_
  exact ⟨_, zq5, (by (with_reducible repeat (first | apply Kd.R_alloc | apply Kd.R_drewN | apply Kd.R_drew)); exact HO109.out), zq0⟩
 ·rw [if_neg c5] at H
  have c5b0 : decide (a1 < 0) = false := decide_eq_false c5
  clear c5
  by_cases c9 : a1 ≥ (l0.length : Int)
  ·rw [if_pos c9] at H
   have c9b0 : decide ((l0.length : Int) ≤ a1) = true := decide_eq_true c9
   clear c9
   have HC10 := zA H
   clear H
   go_upto_region 2 with (fail)
   have H := HC10.out
   clear HC10
   obtain ⟨y110, hy110⟩ : ∃ y_ : List Int, y_ = (([] : List Int)) := ⟨_, rfl⟩
   rw [← hy110] at H
   have Ny110 := zA hy110
   clear hy110
   simp only [Option.some.injEq, Prod.mk.injEq] at H
   obtain ⟨rfl, rfl, rfl, rfl⟩ := H
   go_wp2_with (first | ((with_reducible refine gate_dst (N := 25) rfl ?_); (try (refine gate_guard zq110 ?_; dsimp only)); refine Kd.R_lit (Kd.int .u8) _ 5 ?hg (N := 25) ?hd (xs := ([] : List Int)) (inner := []) (ok := fun _ => True) (okp := fun _ => True) ?hr ?hp (fun _ hk => hk) trivial (Below.refl _ _) (Nat.le_refl _) zq125 ?_; (case hd => rfl); (case hg => rfl); (case hr => first | (go_simp; done) | (go_simp; rfl)); (case hp => exact (Reps.none _ _)); intro v111 w11 ho12 hb hg_ hnew_; clear hg_ hnew_; (first | rw [← Ny110.out] at ho12 | (simp only [Int.reduceToNat] at ho12; rw [← Ny110.out] at ho12)); have HO112 := zA (Kd.R_lower ho12 (below_size zq0)); replace HB := zA (below_step zq0 hb); clear hb ho12))
   refine bodyPost_ret (results_list (rs := [.tmp 4, .tmp 5, .tmp 6, .tmp 7]) rfl zq125 (.tmp (.tmp (.tmp (.tmp .nil))))) rfl ?_
   exact ⟨_, zq5, (by (with_reducible repeat (first | apply Kd.R_alloc | apply Kd.R_drewN | apply Kd.R_drew)); exact HO112.out), zq0⟩
  ·rw [if_neg c9] at H
   have c9b0 : decide ((l0.length : Int) ≤ a1) = false := decide_eq_false c9
   clear c9
   by_cases c13 : (wrap64 (a1 + 1)) ≥ (l0.length : Int)
   ·rw [if_pos c13] at H
    have c13b0 : decide ((l0.length : Int) ≤ (wrap64 (a1 + 1))) = true := decide_eq_true c13
    clear c13
    have HC14 := zA H
    clear H
    go_upto_region 2 with (fail)
    have H := HC14.out
    clear HC14
    obtain ⟨y113, hy113⟩ : ∃ y_ : List Int, y_ = (([] : List Int)) := ⟨_, rfl⟩
    rw [← hy113] at H
    have Ny113 := zA hy113
    clear hy113
    simp only [Option.some.injEq, Prod.mk.injEq] at H
    obtain ⟨rfl, rfl, rfl, rfl⟩ := H
    go_wp2_with (first | ((with_reducible refine gate_dst (N := 25) rfl ?_); (try (refine gate_guard zq110 ?_; dsimp only)); refine Kd.R_lit (Kd.int .u8) _ 5 ?hg (N := 25) ?hd (xs := ([] : List Int)) (inner := []) (ok := fun _ => True) (okp := fun _ => True) ?hr ?hp (fun _ hk => hk) trivial (Below.refl _ _) (Nat.le_refl _) zq125 ?_; (case hd => rfl); (case hg => rfl); (case hr => first | (go_simp; done) | (go_simp; rfl)); (case hp => exact (Reps.none _ _)); intro v114 w15 ho16 hb hg_ hnew_; clear hg_ hnew_; (first | rw [← Ny113.out] at ho16 | (simp only [Int.reduceToNat] at ho16; rw [← Ny113.out] at ho16)); have HO115 := zA (Kd.R_lower ho16 (below_size zq0)); replace HB := zA (below_step zq0 hb); clear hb ho16))
    refine bodyPost_ret (results_list (rs := [.tmp 4, .tmp 5, .tmp 6, .tmp 7]) rfl zq125 (.tmp (.tmp (.tmp (.tmp .nil))))) rfl ?_
    exact ⟨_, zq5, (by (with_reducible repeat (first | apply Kd.R_alloc | apply Kd.R_drewN | apply Kd.R_drew)); exact HO115.out), zq0⟩
   ·rw [if_neg c13] at H
    have c13b0 : decide ((l0.length : Int) ≤ (wrap64 (a1 + 1))) = false := decide_eq_false c13
    clear c13
    have HC17 := zA H
    clear H
    go_upto_region 3 with (fail)
    have H := HC17.out
    clear HC17
    obtain ⟨ji18, hji18⟩ : ∃ j_ : Int, (wrap64 (a1 + 1)) = j_ := ⟨_, rfl⟩
    replace H : (if 0 ≤ (ji18) then (if (ji18) < (l0.length : Int) then (if (wrap64 (rd l0 (ji18))) > 127 then (if (wrap64 (rd l0 (ji18))) = 129 then (if (wrap64 (a1 + 2)) ≥ (l0.length : Int) then (some (0, (([] : List Int)), 0, false)) else (if 0 ≤ (wrap64 (a1 + 2)) then (if (wrap64 (a1 + 2)) < (l0.length : Int) then (if (rd l0 (wrap64 (a1 + 2))) < 128 then (some (0, (([] : List Int)), 0, false)) else (if (wrap64 (rd l0 (wrap64 (a1 + 2)))) > 250 then (some (0, (([] : List Int)), 0, false)) else (if (wrap64 (rd l0 (wrap64 (a1 + 2)))) > (wrap64 ((l0.length : Int) - (wrap64 ((wrap64 (a1 + 2)) + 1)))) then (some (0, (([] : List Int)), 0, false)) else (if 0 ≤ a1 then (if a1 < (l0.length : Int) then ((some (([] : List Int) : List Int)).bind fun y132 => (if 0 ≤ (wrap64 ((wrap64 (a1 + 2)) + 1)) then (if (wrap64 ((wrap64 (a1 + 2)) + 1)) ≤ (wrap64 ((wrap64 ((wrap64 (a1 + 2)) + 1)) + (wrap64 (rd l0 (wrap64 (a1 + 2)))))) then (if (wrap64 ((wrap64 ((wrap64 (a1 + 2)) + 1)) + (wrap64 (rd l0 (wrap64 (a1 + 2)))))) ≤ (l0.length : Int) then (if y132.length + ((l0.take ((wrap64 ((wrap64 ((wrap64 (a1 + 2)) + 1)) + (wrap64 (rd l0 (wrap64 (a1 + 2)))))) : Int).toNat).drop ((wrap64 ((wrap64 (a1 + 2)) + 1)) : Int).toNat).length < 140737488355328 then (some (wrap64 (rd l0 a1), (y132 ++ ((l0.take ((wrap64 ((wrap64 ((wrap64 (a1 + 2)) + 1)) + (wrap64 (rd l0 (wrap64 (a1 + 2)))))) : Int).toNat).drop ((wrap64 ((wrap64 (a1 + 2)) + 1)) : Int).toNat)), wrap64 ((wrap64 ((wrap64 (a1 + 2)) + 1)) + (wrap64 (rd l0 (wrap64 (a1 + 2))))), true)) else (none)) else (none)) else (none)) else (none))) else (none)) else (none))))) else (none)) else (none))) else (some (0, (([] : List Int)), 0, false))) else (if (wrap64 (rd l0 (ji18))) > 250 then (some (0, (([] : List Int)), 0, false)) else (if (wrap64 (rd l0 (ji18))) > (wrap64 ((l0.length : Int) - (wrap64 (a1 + 2)))) then (some (0, (([] : List Int)), 0, false)) else (if 0 ≤ a1 then (if a1 < (l0.length : Int) then ((some (([] : List Int) : List Int)).bind fun y149 => (if 0 ≤ (wrap64 (a1 + 2)) then (if (wrap64 (a1 + 2)) ≤ (wrap64 ((wrap64 (a1 + 2)) + (wrap64 (rd l0 (ji18))))) then (if (wrap64 ((wrap64 (a1 + 2)) + (wrap64 (rd l0 (ji18))))) ≤ (l0.length : Int) then (if y149.length + ((l0.take ((wrap64 ((wrap64 (a1 + 2)) + (wrap64 (rd l0 (ji18))))) : Int).toNat).drop ((wrap64 (a1 + 2)) : Int).toNat).length < 140737488355328 then (some (wrap64 (rd l0 a1), (y149 ++ ((l0.take ((wrap64 ((wrap64 (a1 + 2)) + (wrap64 (rd l0 (ji18))))) : Int).toNat).drop ((wrap64 (a1 + 2)) : Int).toNat)), wrap64 ((wrap64 (a1 + 2)) + (wrap64 (rd l0 (ji18)))), true)) else (none)) else (none)) else (none)) else (none))) else (none)) else (none))))) else (none)) else (none)) = some (r1, r2, r3, r4) := by first | (rw [hji18] at H; exact H) | (simp only [hji18] at H ⊢; exact H)
    (try rw [hji18] at c13b0)
    have hji18w : (IntKind.i64.wrap (a1 + 1)) = ji18 := (i64_w _).trans hji18
    obtain ⟨c19, H⟩ := zN H
    have c19b0 : decide (0 ≤ (ji18)) = true := decide_eq_true c19
    clear c19
    obtain ⟨c20, H⟩ := zN H
    have c20b0 : decide ((ji18) < (l0.length : Int)) = true := decide_eq_true c20
    clear c20
    have HC21 := zA H
    clear H
    have p116 : 0 ≤ ((ji18) : Int) := of_decide_eq_true zq17
    have q116 : (ji18) < (l0.length : Int) := of_decide_eq_true zq17
    obtain ⟨ad116, e116, hx116_0⟩ := Kd.at_int HR0.out (ji18) p116 q116
    cases e116
    replace hx116_0 := (HB.out.cell (World.block_lt_of_cell? w _ hx116_0)).trans hx116_0
    replace p116 := eq_true p116
    replace q116 := eq_true q116
    go_upto_region 4 with (fail)
    have H := HC21.out
    clear HC21
    have HC22 := zA H
    clear H
    go_upto_region 5 with (fail)
    have H := HC22.out
    clear HC22
    by_cases c23 : (wrap64 (rd l0 (ji18))) > 127
    ·rw [if_pos c23] at H
     have c23b0 : decide (127 < (wrap64 (rd l0 (ji18)))) = true := decide_eq_true c23
     clear c23
     have HC24 := zA H
     clear H
     go_upto_region 6 with (fail)
     have H := HC24.out
     clear HC24
     by_cases c25 : (wrap64 (rd l0 (ji18))) = 129
     ·rw [if_pos c25] at H
      have c25b0 : ((wrap64 (rd l0 (ji18))) == 129) = true := beq_iff_eq.mpr c25
      have c25b1 : ((wrap64 (rd l0 (ji18))) != 129) = false := bne_eq_false_iff_eq.mpr c25
      clear c25
      by_cases c26 : (wrap64 (a1 + 2)) ≥ (l0.length : Int)
      ·rw [if_pos c26] at H
       have c26b0 : decide ((l0.length : Int) ≤ (wrap64 (a1 + 2))) = true := decide_eq_true c26
       clear c26
       have HC27 := zA H
       clear H
       go_upto_region 7 with (fail)
       have H := HC27.out
       clear HC27
       obtain ⟨y117, hy117⟩ : ∃ y_ : List Int, y_ = (([] : List Int)) := ⟨_, rfl⟩
       rw [← hy117] at H
       have Ny117 := zA hy117
       clear hy117
       simp only [Option.some.injEq, Prod.mk.injEq] at H
       obtain ⟨rfl, rfl, rfl, rfl⟩ := H
       go_wp2_with (first | ((with_reducible refine gate_dst (N := 51) rfl ?_); (try (refine gate_guard zq110 ?_; dsimp only)); refine Kd.R_lit (Kd.int .u8) _ 5 ?hg (N := 51) ?hd (xs := ([] : List Int)) (inner := []) (ok := fun _ => True) (okp := fun _ => True) ?hr ?hp (fun _ hk => hk) trivial (Below.refl _ _) (Nat.le_refl _) zq125 ?_; (case hd => rfl); (case hg => rfl); (case hr => first | (go_simp; done) | (go_simp; rfl)); (case hp => exact (Reps.none _ _)); intro v118 w28 ho29 hb hg_ hnew_; clear hg_ hnew_; (first | rw [← Ny117.out] at ho29 | (simp only [Int.reduceToNat] at ho29; rw [← Ny117.out] at ho29)); have HO119 := zA (Kd.R_lower ho29 (below_size zq0)); replace HB := zA (below_step zq0 hb); clear hb ho29))
       refine bodyPost_ret (results_list (rs := [.tmp 4, .tmp 5, .tmp 6, .tmp 7]) rfl zq125 (.tmp (.tmp (.tmp (.tmp .nil))))) rfl ?_
       exact ⟨_, zq122, (by (with_reducible repeat (first | apply Kd.R_alloc | apply Kd.R_drewN | apply Kd.R_drew)); exact HO119.out), zq0⟩
      ·rw [if_neg c26] at H
       have c26b0 : decide ((l0.length : Int) ≤ (wrap64 (a1 + 2))) = false := decide_eq_false c26
       clear c26
       obtain ⟨ji30, hji30⟩ : ∃ j_ : Int, (wrap64 (a1 + 2)) = j_ := ⟨_, rfl⟩
       replace H : (if 0 ≤ (ji30) then (if (ji30) < (l0.length : Int) then (if (rd l0 (ji30)) < 128 then (some (0, (([] : List Int)), 0, false)) else (if (wrap64 (rd l0 (ji30))) > 250 then (some (0, (([] : List Int)), 0, false)) else (if (wrap64 (rd l0 (ji30))) > (wrap64 ((l0.length : Int) - (wrap64 ((ji30) + 1)))) then (some (0, (([] : List Int)), 0, false)) else (if 0 ≤ a1 then (if a1 < (l0.length : Int) then ((some (([] : List Int) : List Int)).bind fun y132 => (if 0 ≤ (wrap64 ((ji30) + 1)) then (if (wrap64 ((ji30) + 1)) ≤ (wrap64 ((wrap64 ((ji30) + 1)) + (wrap64 (rd l0 (ji30))))) then (if (wrap64 ((wrap64 ((ji30) + 1)) + (wrap64 (rd l0 (ji30))))) ≤ (l0.length : Int) then (if y132.length + ((l0.take ((wrap64 ((wrap64 ((ji30) + 1)) + (wrap64 (rd l0 (ji30))))) : Int).toNat).drop ((wrap64 ((ji30) + 1)) : Int).toNat).length < 140737488355328 then (some (wrap64 (rd l0 a1), (y132 ++ ((l0.take ((wrap64 ((wrap64 ((ji30) + 1)) + (wrap64 (rd l0 (ji30))))) : Int).toNat).drop ((wrap64 ((ji30) + 1)) : Int).toNat)), wrap64 ((wrap64 ((ji30) + 1)) + (wrap64 (rd l0 (ji30)))), true)) else (none)) else (none)) else (none)) else (none))) else (none)) else (none))))) else (none)) else (none)) = some (r1, r2, r3, r4) := by first | (rw [hji30] at H; exact H) | (simp only [hji30] at H ⊢; exact H)
       (try rw [hji30] at c26b0)
       have hji30w : (IntKind.i64.wrap (a1 + 2)) = ji30 := (i64_w _).trans hji30
       obtain ⟨c31, H⟩ := zN H
       have c31b0 : decide (0 ≤ (ji30)) = true := decide_eq_true c31
       clear c31
       obtain ⟨c32, H⟩ := zN H
       have c32b0 : decide ((ji30) < (l0.length : Int)) = true := decide_eq_true c32
       clear c32
       by_cases c33 : (rd l0 (ji30)) < 128
       ·rw [if_pos c33] at H
        have c33b0 : decide ((rd l0 (ji30)) < 128) = true := decide_eq_true c33
        clear c33
        have HC34 := zA H
        clear H
        have p120 : 0 ≤ ((ji30) : Int) := of_decide_eq_true zq17
        have q120 : (ji30) < (l0.length : Int) := of_decide_eq_true zq17
        obtain ⟨ad120, e120, hx120_0⟩ := Kd.at_int HR0.out (ji30) p120 q120
        obtain rfl : ad116 = ad120 := (by injection e120)
        replace hx120_0 := (HB.out.cell (World.block_lt_of_cell? w _ hx120_0)).trans hx120_0
        replace p120 := eq_true p120
        replace q120 := eq_true q120
        go_upto_region 7 with (fail)
        have H := HC34.out
        clear HC34
        obtain ⟨y121, hy121⟩ : ∃ y_ : List Int, y_ = (([] : List Int)) := ⟨_, rfl⟩
        rw [← hy121] at H
        have Ny121 := zA hy121
        clear hy121
        simp only [Option.some.injEq, Prod.mk.injEq] at H
        obtain ⟨rfl, rfl, rfl, rfl⟩ := H
        go_wp2_with (first | ((with_reducible refine gate_dst (N := 51) rfl ?_); (try (refine gate_guard zq110 ?_; dsimp only)); refine Kd.R_lit (Kd.int .u8) _ 5 ?hg (N := 51) ?hd (xs := ([] : List Int)) (inner := []) (ok := fun _ => True) (okp := fun _ => True) ?hr ?hp (fun _ hk => hk) trivial (Below.refl _ _) (Nat.le_refl _) zq125 ?_; (case hd => rfl); (case hg => rfl); (case hr => first | (go_simp; done) | (go_simp; rfl)); (case hp => exact (Reps.none _ _)); intro v122 w35 ho36 hb hg_ hnew_; clear hg_ hnew_; (first | rw [← Ny121.out] at ho36 | (simp only [Int.reduceToNat] at ho36; rw [← Ny121.out] at ho36)); have HO123 := zA (Kd.R_lower ho36 (below_size zq0)); replace HB := zA (below_step zq0 hb); clear hb ho36))
        refine bodyPost_ret (results_list (rs := [.tmp 4, .tmp 5, .tmp 6, .tmp 7]) rfl zq125 (.tmp (.tmp (.tmp (.tmp .nil))))) rfl ?_
        exact ⟨_, zq154, (by (with_reducible repeat (first | apply Kd.R_alloc | apply Kd.R_drewN | apply Kd.R_drew)); exact HO123.out), zq0⟩
       ·rw [if_neg c33] at H
        have c33b0 : decide ((rd l0 (ji30)) < 128) = false := decide_eq_false c33
        clear c33
        have HC37 := zA H
        clear H
        have p120 : 0 ≤ ((ji30) : Int) := of_decide_eq_true zq17
        have q120 : (ji30) < (l0.length : Int) := of_decide_eq_true zq17
        obtain ⟨ad120, e120, hx120_0⟩ := Kd.at_int HR0.out (ji30) p120 q120
        obtain rfl : ad116 = ad120 := (by injection e120)
        replace hx120_0 := (HB.out.cell (World.block_lt_of_cell? w _ hx120_0)).trans hx120_0
        replace p120 := eq_true p120
        replace q120 := eq_true q120
        go_upto_region 8 with (fail)
        have H := HC37.out
        clear HC37
        have HC38 := zA H
        clear H
        have p124 : 0 ≤ ((ji30) : Int) := of_decide_eq_true zq17
        have q124 : (ji30) < (l0.length : Int) := of_decide_eq_true zq17
        obtain ⟨ad124, e124, hx124_0⟩ := Kd.at_int HR0.out (ji30) p124 q124
        obtain rfl : ad116 = ad124 := (by injection e124)
        replace hx124_0 := (HB.out.cell (World.block_lt_of_cell? w _ hx124_0)).trans hx124_0
        replace p124 := eq_true p124
        replace q124 := eq_true q124
        go_upto_region 9 with (fail)
        have H := HC38.out
        clear HC38
        have HC39 := zA H
        clear H
        go_upto_region 10 with (fail)
        have H := HC39.out
        clear HC39
        by_cases c40 : (wrap64 (rd l0 (ji30))) > 250
        ·rw [if_pos c40] at H
         have c40b0 : decide (250 < (wrap64 (rd l0 (ji30)))) = true := decide_eq_true c40
         clear c40
         have HC41 := zA H
         clear H
         go_upto_region 11 with (fail)
         have H := HC41.out
         clear HC41
         obtain ⟨y125, hy125⟩ : ∃ y_ : List Int, y_ = (([] : List Int)) := ⟨_, rfl⟩
         rw [← hy125] at H
         have Ny125 := zA hy125
         clear hy125
         simp only [Option.some.injEq, Prod.mk.injEq] at H
         obtain ⟨rfl, rfl, rfl, rfl⟩ := H
         go_wp2_with (first | ((with_reducible refine gate_dst (N := 69) rfl ?_); (try (refine gate_guard zq110 ?_; dsimp only)); refine Kd.R_lit (Kd.int .u8) _ 5 ?hg (N := 69) ?hd (xs := ([] : List Int)) (inner := []) (ok := fun _ => True) (okp := fun _ => True) ?hr ?hp (fun _ hk => hk) trivial (Below.refl _ _) (Nat.le_refl _) zq125 ?_; (case hd => rfl); (case hg => rfl); (case hr => first | (go_simp; done) | (go_simp; rfl)); (case hp => exact (Reps.none _ _)); intro v126 w42 ho43 hb hg_ hnew_; clear hg_ hnew_; (first | rw [← Ny125.out] at ho43 | (simp only [Int.reduceToNat] at ho43; rw [← Ny125.out] at ho43)); have HO127 := zA (Kd.R_lower ho43 (below_size zq0)); replace HB := zA (below_step zq0 hb); clear hb ho43))
         refine bodyPost_ret (results_list (rs := [.tmp 4, .tmp 5, .tmp 6, .tmp 7]) rfl zq125 (.tmp (.tmp (.tmp (.tmp .nil))))) rfl ?_
         exact ⟨_, zq154, (by (with_reducible repeat (first | apply Kd.R_alloc | apply Kd.R_drewN | apply Kd.R_drew)); exact HO127.out), zq0⟩
        ·rw [if_neg c40] at H
         have c40b0 : decide (250 < (wrap64 (rd l0 (ji30)))) = false := decide_eq_false c40
         clear c40
         by_cases c44 : (wrap64 (rd l0 (ji30))) > (wrap64 ((l0.length : Int) - (wrap64 ((ji30) + 1))))
         ·rw [if_pos c44] at H
          have c44b0 : decide ((wrap64 ((l0.length : Int) - (wrap64 ((ji30) + 1)))) < (wrap64 (rd l0 (ji30)))) = true := decide_eq_true c44
          clear c44
          have HC45 := zA H
          clear H
          go_upto_region 11 with (fail)
          have H := HC45.out
          clear HC45
          obtain ⟨y128, hy128⟩ : ∃ y_ : List Int, y_ = (([] : List Int)) := ⟨_, rfl⟩
          rw [← hy128] at H
          have Ny128 := zA hy128
          clear hy128
          simp only [Option.some.injEq, Prod.mk.injEq] at H
          obtain ⟨rfl, rfl, rfl, rfl⟩ := H
          go_wp2_with (first | ((with_reducible refine gate_dst (N := 69) rfl ?_); (try (refine gate_guard zq110 ?_; dsimp only)); refine Kd.R_lit (Kd.int .u8) _ 5 ?hg (N := 69) ?hd (xs := ([] : List Int)) (inner := []) (ok := fun _ => True) (okp := fun _ => True) ?hr ?hp (fun _ hk => hk) trivial (Below.refl _ _) (Nat.le_refl _) zq125 ?_; (case hd => rfl); (case hg => rfl); (case hr => first | (go_simp; done) | (go_simp; rfl)); (case hp => exact (Reps.none _ _)); intro v129 w46 ho47 hb hg_ hnew_; clear hg_ hnew_; (first | rw [← Ny128.out] at ho47 | (simp only [Int.reduceToNat] at ho47; rw [← Ny128.out] at ho47)); have HO130 := zA (Kd.R_lower ho47 (below_size zq0)); replace HB := zA (below_step zq0 hb); clear hb ho47))
          refine bodyPost_ret (results_list (rs := [.tmp 4, .tmp 5, .tmp 6, .tmp 7]) rfl zq125 (.tmp (.tmp (.tmp (.tmp .nil))))) rfl ?_
          exact ⟨_, zq154, (by (with_reducible repeat (first | apply Kd.R_alloc | apply Kd.R_drewN | apply Kd.R_drew)); exact HO130.out), zq0⟩
         ·rw [if_neg c44] at H
          have c44b0 : decide ((wrap64 ((l0.length : Int) - (wrap64 ((ji30) + 1)))) < (wrap64 (rd l0 (ji30)))) = false := decide_eq_false c44
          clear c44
          have HC48 := zA H
          clear H
          go_upto_region 12 with (fail)
          have H := HC48.out
          clear HC48
          obtain ⟨c49, H⟩ := zN H
          have c49b0 : decide (0 ≤ a1) = true := decide_eq_true c49
          clear c49
          obtain ⟨c50, H⟩ := zN H
          have c50b0 : decide (a1 < (l0.length : Int)) = true := decide_eq_true c50
          clear c50
          obtain ⟨y132, Ny132, H⟩ := zS (([] : List Int)) H
          obtain ⟨ji51, hji51⟩ : ∃ j_ : Int, (wrap64 ((ji30) + 1)) = j_ := ⟨_, rfl⟩
          replace H : (if 0 ≤ (ji51) then (if (ji51) ≤ (wrap64 ((ji51) + (wrap64 (rd l0 (ji30))))) then (if (wrap64 ((ji51) + (wrap64 (rd l0 (ji30))))) ≤ (l0.length : Int) then (if y132.length + ((l0.take ((wrap64 ((ji51) + (wrap64 (rd l0 (ji30))))) : Int).toNat).drop ((ji51) : Int).toNat).length < 140737488355328 then (some (wrap64 (rd l0 a1), (y132 ++ ((l0.take ((wrap64 ((ji51) + (wrap64 (rd l0 (ji30))))) : Int).toNat).drop ((ji51) : Int).toNat)), wrap64 ((ji51) + (wrap64 (rd l0 (ji30)))), true)) else (none)) else (none)) else (none)) else (none)) = some (r1, r2, r3, r4) := by first | (rw [hji51] at H; exact H) | (simp only [hji51] at H ⊢; exact H)
          (try rw [hji51] at c44b0)
          have hji51w : (IntKind.i64.wrap ((ji30) + 1)) = ji51 := (i64_w _).trans hji51
          obtain ⟨c52, H⟩ := zN H
          have c52b0 := eq_true c52
          have c52b1 : decide (0 ≤ (ji51)) = true := decide_eq_true c52
          clear c52
          obtain ⟨c53, H⟩ := zN H
          have c53b0 := eq_true c53
          have c53b1 : decide ((ji51) ≤ (wrap64 ((ji51) + (wrap64 (rd l0 (ji30)))))) = true := decide_eq_true c53
          obtain ⟨c54, H⟩ := zN H
          have c54b0 := eq_true c54
          have c54b1 : decide ((wrap64 ((ji51) + (wrap64 (rd l0 (ji30))))) ≤ (l0.length : Int)) = true := decide_eq_true c54
          obtain ⟨c55, H⟩ := zN H
          have LMc55 := zA c55
          clear c55
          obtain ⟨y136, hy136⟩ : ∃ y_ : List Int, y_ = (y132 ++ ((l0.take ((wrap64 ((ji51) + (wrap64 (rd l0 (ji30))))) : Int).toNat).drop ((ji51) : Int).toNat)) := ⟨_, rfl⟩
          rw [← hy136] at H
          have Ny136 := zA hy136
          clear hy136
          simp only [Option.some.injEq, Prod.mk.injEq] at H
          obtain ⟨rfl, rfl, rfl, rfl⟩ := H
          try go_wp2
          have n0_ := zA (below_drew1 HB.out)
          clear HB
          have HB := n0_
          clear n0_
          have p131 : 0 ≤ (a1 : Int) := of_decide_eq_true zq17
          have q131 : a1 < (l0.length : Int) := of_decide_eq_true zq17
          obtain ⟨ad131, e131, hx131_0⟩ := Kd.at_int HR0.out a1 p131 q131
          have hw131_0 := hx131_0
          obtain rfl : ad116 = ad131 := (by injection e131)
          replace hx131_0 := (HB.out.cell (World.block_lt_of_cell? w _ hx131_0)).trans hx131_0
          replace p131 := eq_true p131
          replace q131 := eq_true q131
          obtain ⟨i057, hi057, _, hsz57, _⟩ := info_parts info5
          obtain ⟨A57, hcut57, hA57, hC57⟩ := print_mid_of (P := Try.prog) (Value.int .u8) 0 22 5 .i64 .i64 Try.underlying22 hi057 hsz57 (some ad116) c0 l0 (ji51) (wrap64 ((ji51) + (wrap64 (rd l0 (ji30))))) (of_decide_eq_true zq17) zq166 (of_decide_eq_true zq17) HC0.out
          have HR135 := zA (Kd.C_of_reads (h1 := fun _ => rfl) (hA57 _ (Kd.reads_of_C HR0.out)))
          have HC135 := zA hC57
          clear hA57 hC57 hi057 hsz57
          refine start_ (n := 20) (S := fun w' => w'.cell? (ad116.add (a1).toNat) = some (.int .u8 (rd l0 a1))) (ds := []) #[false, false, false, false, false, false, false, false, false, false, false, false, false, false, false, false, false, false, false, false] (by kernel_rfl) rfl rfl (((HB.out.cell (World.block_lt_of_cell? w _ hw131_0)).trans hw131_0)) (fun hHeld => ?_); refine with_tabW spec_GetTlv.tab12 spec_GetTlv.bits12 (fun HT_ HW_ => ?_)
          generalize w.drew = w56 at HB HR135 hx131_0 hHeld ⊢
          refine pure_ (i := 0) (N := some 70) (v := ?_) (a' := ?_) #[true, false, false, false, false, false, false, false, false, false, false, false, false, false, false, false, false, false, false, false] rfl rfl (any_of HT_.out (by kernel_rfl)) (fun _ _ _ h => h) (Or.inl ⟨zq110, ?_⟩) ?_ ?_
          rotate_left
          ·intro w'
           go_simp
           with_reducible rfl
          rotate_left
          ·simp only [Act.put, List.setIfInBounds_toArray, List.set_cons_zero, List.set_cons_succ, i64_w, i32_w]
           rfl
          refine pure_ (i := 1) (N := some 71) (v := ?_) (a' := ?_) #[true, true, false, false, false, false, false, false, false, false, false, false, false, false, false, false, false, false, false, false] rfl rfl (any_of HT_.out (by kernel_rfl)) (fun _ _ _ h => h) (Or.inl ⟨zq110, ?_⟩) ?_ ?_
          rotate_left
          ·intro w'
           go_simp
           with_reducible rfl
          rotate_left
          ·simp only [Act.put, List.setIfInBounds_toArray, List.set_cons_zero, List.set_cons_succ, i64_w, i32_w]
           rfl
          refine pure_ (i := 2) (N := some 72) (v := ?_) (a' := ?_) #[true, true, true, false, false, false, false, false, false, false, false, false, false, false, false, false, false, false, false, false] rfl rfl (any_of HT_.out (by kernel_rfl)) (fun _ _ _ h => h) (Or.inl ⟨zq110, ?_⟩) ?_ ?_
          rotate_left
          ·intro w'
           go_simp
           with_reducible rfl
          rotate_left
          ·simp only [Act.put, List.setIfInBounds_toArray, List.set_cons_zero, List.set_cons_succ, i64_w, i32_w]
           rfl
          refine pure_ (i := 6) (N := some 76) (v := ?_) (a' := ?_) #[true, true, true, false, false, false, true, false, false, false, false, false, false, false, false, false, false, false, false, false] rfl rfl (any_of HT_.out (by kernel_rfl)) (fun _ _ _ h => h) (Or.inl ⟨zq110, ?_⟩) ?_ ?_
          rotate_left
          ·intro w'
           go_simp
           with_reducible rfl
          rotate_left
          ·simp only [Act.put, List.setIfInBounds_toArray, List.set_cons_zero, List.set_cons_succ, i64_w, i32_w]
           rfl
          refine pure_ (i := 7) (N := some 77) (v := ?_) (a' := ?_) #[true, true, true, false, false, false, true, true, false, false, false, false, false, false, false, false, false, false, false, false] rfl rfl (any_of HT_.out (by kernel_rfl)) (fun _ _ _ h => h) (Or.inl ⟨zq110, ?_⟩) ?_ ?_
          rotate_left
          ·intro w'
           go_simp
           with_reducible rfl
          rotate_left
          ·simp only [Act.put, List.setIfInBounds_toArray, List.set_cons_zero, List.set_cons_succ, i64_w, i32_w]
           rfl
          refine pure_ (i := 8) (N := some 78) (v := ?_) (a' := ?_) #[true, true, true, false, false, false, true, true, true, false, false, false, false, false, false, false, false, false, false, false] rfl rfl (any_of HT_.out (by kernel_rfl)) (fun _ _ _ h => h) (Or.inl ⟨zq110, ?_⟩) ?_ ?_
          rotate_left
          ·intro w'
           go_simp
           with_reducible rfl
          rotate_left
          ·simp only [Act.put, List.setIfInBounds_toArray, List.set_cons_zero, List.set_cons_succ, i64_w, i32_w]
           rfl
          refine pure_ (i := 9) (N := some 79) (v := ?_) (a' := ?_) #[true, true, true, false, false, false, true, true, true, true, false, false, false, false, false, false, false, false, false, false] rfl rfl (any_of HT_.out (by kernel_rfl)) (fun _ _ _ h => h) (Or.inl ⟨zq110, ?_⟩) ?_ ?_
          rotate_left
          ·intro w'
           go_simp
           with_reducible rfl
          rotate_left
          ·simp only [Act.put, List.setIfInBounds_toArray, List.set_cons_zero, List.set_cons_succ, i64_w, i32_w]
           rfl
          refine pure_ (i := 10) (N := some 80) (v := ?_) (a' := ?_) #[true, true, true, false, false, false, true, true, true, true, true, false, false, false, false, false, false, false, false, false] rfl rfl (any_of HT_.out (by kernel_rfl)) (fun _ _ _ h => h) (Or.inl ⟨zq110, ?_⟩) ?_ ?_
          rotate_left
          ·intro w'
           go_simp
           with_reducible rfl
          rotate_left
          ·simp only [Act.put, List.setIfInBounds_toArray, List.set_cons_zero, List.set_cons_succ, i64_w, i32_w]
           rfl
          refine pure_ (i := 11) (N := some 81) (v := ?_) (a' := ?_) #[true, true, true, false, false, false, true, true, true, true, true, true, false, false, false, false, false, false, false, false] rfl rfl (any_of HT_.out (by kernel_rfl)) (fun _ _ _ h => h) (Or.inl ⟨zq110, ?_⟩) ?_ ?_
          rotate_left
          ·intro w'
           go_simp
           with_reducible rfl
          rotate_left
          ·simp only [Act.put, List.setIfInBounds_toArray, List.set_cons_zero, List.set_cons_succ, i64_w, i32_w]
           rfl
          refine pure_ (i := 13) (N := some 83) (v := ?_) (a' := ?_) #[true, true, true, false, false, false, true, true, true, true, true, true, false, true, false, false, false, false, false, false] rfl rfl (any_of HT_.out (by kernel_rfl)) (fun _ _ _ h => h) (Or.inl ⟨zq110, ?_⟩) ?_ ?_
          rotate_left
          ·intro w'
           go_simp
           with_reducible rfl
          rotate_left
          ·simp only [Act.put, List.setIfInBounds_toArray, List.set_cons_zero, List.set_cons_succ, i64_w, i32_w]
           rfl
          refine pure_ (i := 14) (N := some 84) (v := ?_) (a' := ?_) #[true, true, true, false, false, false, true, true, true, true, true, true, false, true, true, false, false, false, false, false] rfl rfl (any_of HT_.out (by kernel_rfl)) (fun _ _ _ h => h) (Or.inl ⟨zq110, ?_⟩) ?_ ?_
          rotate_left
          ·intro w'
           go_simp
           with_reducible rfl
          rotate_left
          ·simp only [Act.put, List.setIfInBounds_toArray, List.set_cons_zero, List.set_cons_succ, i64_w, i32_w]
           rfl
          refine pure_ (i := 15) (N := some 85) (v := ?_) (a' := ?_) #[true, true, true, false, false, false, true, true, true, true, true, true, false, true, true, true, false, false, false, false] rfl rfl (any_of HT_.out (by kernel_rfl)) (fun _ _ _ h => h) (Or.inl ⟨zq110, ?_⟩) ?_ ?_
          rotate_left
          ·intro w'
           go_simp
           with_reducible rfl
          rotate_left
          ·simp only [Act.put, List.setIfInBounds_toArray, List.set_cons_zero, List.set_cons_succ, i64_w, i32_w]
           rfl
          refine take_ (i := 3) (N := some 73) (v := ?_) (a' := ?_) #[true, true, true, true, false, false, true, true, true, true, true, true, false, true, true, true, false, false, false, false] rfl rfl (take_ofW HT_.out HW_.out (by kernel_rfl)) (fun _ _ _ h => h) (Or.inl ⟨zq110, ?_⟩) hHeld ?_ ?_
          rotate_left
          ·intro w' s0
           go_simp
           with_reducible rfl
          rotate_left
          ·simp only [Act.put, List.setIfInBounds_toArray, List.set_cons_zero, List.set_cons_succ, i64_w, i32_w]
           rfl
          refine pure_ (i := 4) (N := some 74) (v := ?_) (a' := ?_) #[true, true, true, true, true, false, true, true, true, true, true, true, false, true, true, true, false, false, false, false] rfl rfl (any_of HT_.out (by kernel_rfl)) (fun _ _ _ h => h) (Or.inl ⟨zq110, ?_⟩) ?_ ?_
          rotate_left
          ·intro w'
           go_simp
           with_reducible rfl
          rotate_left
          ·simp only [Act.put, List.setIfInBounds_toArray, List.set_cons_zero, List.set_cons_succ, i64_w, i32_w]
           rfl
          refine one_ (i := 5) (N := some 75) #[true, true, true, true, true, true, true, true, true, true, true, true, false, true, true, true, false, false, false, false] rfl rfl (one_of HT_.out (by kernel_rfl)) zq40 (fun K hK => ?_)
          refine Kd.R_lit_step (Kd.int .u8) _ 5 ?hg (N := 75) ?hd (xs := ([] : List Int)) (inner := []) (ok := fun _ => True) (okp := fun _ => True) ?hr ?hp (fun _ hk => hk) trivial (Below.refl _ _) (Nat.le_refl _) zq125 ?_; (case hd => rfl); (case hg => rfl); (case hr => first | (go_simp; done) | (go_simp; rfl)); (case hp => exact (Reps.none _ _))
          intro v133 w58 ho59 hb hg_ hnew_
          clear hg_ hnew_
          (first | rw [← Ny132.out] at ho59 | (simp only [Int.reduceToNat] at ho59; rw [← Ny132.out] at ho59))
          have n0_ := zA (Kd.R_lower ho59 (below_size zq0))
          have n1_ := zA (below_step zq0 hb)
          clear HB
          have HO134 := n0_
          have HB := n1_
          clear n0_ n1_
          clear hb ho59
          refine hK.out _ _ (((HB.out.cell (World.block_lt_of_cell? w _ hw131_0)).trans hw131_0)) (fun hHeld => ?_)
          clear hK K
          refine norm_ (a' := ?_) ?_ ?_
          rotate_left
          ·show Act.put _ (some 75) _ = _
           simp only [Act.put, List.setIfInBounds_toArray, List.set_cons_zero, List.set_cons_succ, i64_w, i32_w]
           rfl
          refine one_ (i := 12) (N := some 82) #[true, true, true, true, true, true, true, true, true, true, true, true, true, true, true, true, false, false, false, false] rfl rfl (one_of HT_.out (by kernel_rfl)) zq40 (fun K hK => ?_)
          refine Kd.R_append_rows_step (Kd.int .u8) (w0 := w) w.heap.size zq110 (.tmp 75) (.tmp 81) 22 5 (.int .u8 0) 1 rfl Try.underlying22 info5 rfl zq40 zq177 v133 y132 ((l0.take ((wrap64 ((ji51) + (wrap64 (rd l0 (ji30))))) : Int).toNat).drop ((ji51) : Int).toNat) _ _ _ (fun _ => True) (fun _ => False) rfl rfl ?aO ?aR (fun _ _ h => h) (fun _ h => h.elim) ?aF ?aB ?aS ?aL ?_
          (case aR => first | (rw [← show ((l0.take ((wrap64 ((ji51) + (wrap64 (rd l0 (ji30))))) : Int).toNat).drop ((ji51) : Int).toNat).length = ((wrap64 ((ji51) + (wrap64 (rd l0 (ji30))))).toNat - (ji51).toNat) from zq183]; repeat (first | exact (Kd.C_below HR135.out HB.out) | (with_reducible refine Kd.C_alloc ?_ _) | (with_reducible refine Kd.C_drewN ?_ _) | (with_reducible refine Kd.C_drew ?_))) | (repeat (first | exact (Kd.C_below HR135.out HB.out) | (with_reducible refine Kd.C_alloc ?_ _) | (with_reducible refine Kd.C_drewN ?_ _) | (with_reducible refine Kd.C_drew ?_))))
          (case aB => exact zq0)
          (case aF => exact (fun _ _ => trivial))
          (case aO => exact (by (with_reducible repeat (first | apply Kd.R_alloc | apply Kd.R_drewN | apply Kd.R_drew)); exact HO134.out))
          (case aS => exact (below_size zq0))
          (case aL => have := LMc55.out; have hlx_ := (show ((l0.take ((wrap64 ((ji51) + (wrap64 (rd l0 (ji30))))) : Int).toNat).drop ((ji51) : Int).toNat).length = ((wrap64 ((ji51) + (wrap64 (rd l0 (ji30))))).toNat - (ji51).toNat) from zq183); omega)
          intro v137 w60 ho hb hg hat
          rw [← Ny136.out] at ho
          have n0_ := zA (hb)
          have n1_ := zA (ho)
          clear HB
          clear HO134
          have HB := n0_
          have HO138 := n1_
          clear n0_ n1_
          clear ho hb hg hat
          refine hK.out _ _ (((HB.out.cell (World.block_lt_of_cell? w _ hw131_0)).trans hw131_0)) (fun hHeld => ?_)
          clear hK K
          refine norm_ (a' := ?_) ?_ ?_
          rotate_left
          ·show Act.put _ (some 82) _ = _
           simp only [Act.put, List.setIfInBounds_toArray, List.set_cons_zero, List.set_cons_succ, i64_w, i32_w]
           rfl
          refine pure_ (i := 16) (N := some 4) (v := ?_) (a' := ?_) #[true, true, true, true, true, true, true, true, true, true, true, true, true, true, true, true, true, false, false, false] rfl rfl (any_of HT_.out (by kernel_rfl)) (fun _ _ _ h => h) (Or.inl ⟨zq110, ?_⟩) ?_ ?_
          rotate_left
          ·intro w'
           go_simp
           with_reducible rfl
          rotate_left
          ·simp only [Act.put, List.setIfInBounds_toArray, List.set_cons_zero, List.set_cons_succ, i64_w, i32_w]
           rfl
          refine pure_ (i := 17) (N := some 5) (v := ?_) (a' := ?_) #[true, true, true, true, true, true, true, true, true, true, true, true, true, true, true, true, true, true, false, false] rfl rfl (any_of HT_.out (by kernel_rfl)) (fun _ _ _ h => h) (Or.inl ⟨zq110, ?_⟩) ?_ ?_
          rotate_left
          ·intro w'
           go_simp
           with_reducible rfl
          rotate_left
          ·simp only [Act.put, List.setIfInBounds_toArray, List.set_cons_zero, List.set_cons_succ, i64_w, i32_w]
           rfl
          refine pure_ (i := 18) (N := some 6) (v := ?_) (a' := ?_) #[true, true, true, true, true, true, true, true, true, true, true, true, true, true, true, true, true, true, true, false] rfl rfl (any_of HT_.out (by kernel_rfl)) (fun _ _ _ h => h) (Or.inl ⟨zq110, ?_⟩) ?_ ?_
          rotate_left
          ·intro w'
           go_simp
           with_reducible rfl
          rotate_left
          ·simp only [Act.put, List.setIfInBounds_toArray, List.set_cons_zero, List.set_cons_succ, i64_w, i32_w]
           rfl
          refine pure_ (i := 19) (N := some 7) (v := ?_) (a' := ?_) #[true, true, true, true, true, true, true, true, true, true, true, true, true, true, true, true, true, true, true, true] rfl rfl (any_of HT_.out (by kernel_rfl)) (fun _ _ _ h => h) (Or.inl ⟨zq110, ?_⟩) ?_ ?_
          rotate_left
          ·intro w'
           go_simp
           with_reducible rfl
          rotate_left
          ·simp only [Act.put, List.setIfInBounds_toArray, List.set_cons_zero, List.set_cons_succ, i64_w, i32_w]
           rfl
          refine done_ (done_of HT_.out (by kernel_rfl)) ?_
          try go_wp2
          refine bodyPost_ret (results_list (rs := [.tmp 4, .tmp 5, .tmp 6, .tmp 7]) rfl zq125 (.tmp (.tmp (.tmp (.tmp .nil))))) rfl ?_
          exact ⟨_, (by first | rfl | (simp [errW_none, errW_some] <;> rfl) | (simp only [← hji18, ← hji30, ← hji51]; first | rfl | (simp [errW_none, errW_some] <;> rfl)) | (simp [*, errW_none, errW_some] <;> rfl)), (by (with_reducible repeat (first | apply Kd.R_alloc | apply Kd.R_drewN | apply Kd.R_drew)); exact HO138.out), zq0⟩
     ·rw [if_neg c25] at H
      have c25b0 : ((wrap64 (rd l0 (ji18))) == 129) = false := beq_eq_false_iff_ne.mpr c25
      have c25b1 : ((wrap64 (rd l0 (ji18))) != 129) = true := bne_iff_ne.mpr c25
      have HC61 := zA H
      clear H
      go_upto_region 7 with (fail)
      have H := HC61.out
      clear HC61
      obtain ⟨y139, hy139⟩ : ∃ y_ : List Int, y_ = (([] : List Int)) := ⟨_, rfl⟩
      rw [← hy139] at H
      have Ny139 := zA hy139
      clear hy139
      simp only [Option.some.injEq, Prod.mk.injEq] at H
      obtain ⟨rfl, rfl, rfl, rfl⟩ := H
      go_wp2_with (first | ((with_reducible refine gate_dst (N := 51) rfl ?_); (try (refine gate_guard zq110 ?_; dsimp only)); refine Kd.R_lit (Kd.int .u8) _ 5 ?hg (N := 51) ?hd (xs := ([] : List Int)) (inner := []) (ok := fun _ => True) (okp := fun _ => True) ?hr ?hp (fun _ hk => hk) trivial (Below.refl _ _) (Nat.le_refl _) zq125 ?_; (case hd => rfl); (case hg => rfl); (case hr => first | (go_simp; done) | (go_simp; rfl)); (case hp => exact (Reps.none _ _)); intro v140 w62 ho63 hb hg_ hnew_; clear hg_ hnew_; (first | rw [← Ny139.out] at ho63 | (simp only [Int.reduceToNat] at ho63; rw [← Ny139.out] at ho63)); have HO141 := zA (Kd.R_lower ho63 (below_size zq0)); replace HB := zA (below_step zq0 hb); clear hb ho63))
      refine bodyPost_ret (results_list (rs := [.tmp 4, .tmp 5, .tmp 6, .tmp 7]) rfl zq125 (.tmp (.tmp (.tmp (.tmp .nil))))) rfl ?_
      exact ⟨_, zq122, (by (with_reducible repeat (first | apply Kd.R_alloc | apply Kd.R_drewN | apply Kd.R_drew)); exact HO141.out), zq0⟩
    ·rw [if_neg c23] at H
     have c23b0 : decide (127 < (wrap64 (rd l0 (ji18)))) = false := decide_eq_false c23
     clear c23
     have HC64 := zA H
     clear H
     go_upto_region 10 with (fail)
     have H := HC64.out
     clear HC64
     by_cases c65 : (wrap64 (rd l0 (ji18))) > 250
     ·rw [if_pos c65] at H
      have c65b0 : decide (250 < (wrap64 (rd l0 (ji18)))) = true := decide_eq_true c65
      clear c65
      have HC66 := zA H
      clear H
      go_upto_region 11 with (fail)
      have H := HC66.out
      clear HC66
      obtain ⟨y142, hy142⟩ : ∃ y_ : List Int, y_ = (([] : List Int)) := ⟨_, rfl⟩
      rw [← hy142] at H
      have Ny142 := zA hy142
      clear hy142
      simp only [Option.some.injEq, Prod.mk.injEq] at H
      obtain ⟨rfl, rfl, rfl, rfl⟩ := H
      go_wp2_with (first | ((with_reducible refine gate_dst (N := 69) rfl ?_); (try (refine gate_guard zq110 ?_; dsimp only)); refine Kd.R_lit (Kd.int .u8) _ 5 ?hg (N := 69) ?hd (xs := ([] : List Int)) (inner := []) (ok := fun _ => True) (okp := fun _ => True) ?hr ?hp (fun _ hk => hk) trivial (Below.refl _ _) (Nat.le_refl _) zq125 ?_; (case hd => rfl); (case hg => rfl); (case hr => first | (go_simp; done) | (go_simp; rfl)); (case hp => exact (Reps.none _ _)); intro v143 w67 ho68 hb hg_ hnew_; clear hg_ hnew_; (first | rw [← Ny142.out] at ho68 | (simp only [Int.reduceToNat] at ho68; rw [← Ny142.out] at ho68)); have HO144 := zA (Kd.R_lower ho68 (below_size zq0)); replace HB := zA (below_step zq0 hb); clear hb ho68))
      refine bodyPost_ret (results_list (rs := [.tmp 4, .tmp 5, .tmp 6, .tmp 7]) rfl zq125 (.tmp (.tmp (.tmp (.tmp .nil))))) rfl ?_
      exact ⟨_, zq122, (by (with_reducible repeat (first | apply Kd.R_alloc | apply Kd.R_drewN | apply Kd.R_drew)); exact HO144.out), zq0⟩
     ·rw [if_neg c65] at H
      have c65b0 : decide (250 < (wrap64 (rd l0 (ji18)))) = false := decide_eq_false c65
      clear c65
      by_cases c69 : (wrap64 (rd l0 (ji18))) > (wrap64 ((l0.length : Int) - (wrap64 (a1 + 2))))
      ·rw [if_pos c69] at H
       have c69b0 : decide ((wrap64 ((l0.length : Int) - (wrap64 (a1 + 2)))) < (wrap64 (rd l0 (ji18)))) = true := decide_eq_true c69
       clear c69
       have HC70 := zA H
       clear H
       go_upto_region 11 with (fail)
       have H := HC70.out
       clear HC70
       obtain ⟨y145, hy145⟩ : ∃ y_ : List Int, y_ = (([] : List Int)) := ⟨_, rfl⟩
       rw [← hy145] at H
       have Ny145 := zA hy145
       clear hy145
       simp only [Option.some.injEq, Prod.mk.injEq] at H
       obtain ⟨rfl, rfl, rfl, rfl⟩ := H
       go_wp2_with (first | ((with_reducible refine gate_dst (N := 69) rfl ?_); (try (refine gate_guard zq110 ?_; dsimp only)); refine Kd.R_lit (Kd.int .u8) _ 5 ?hg (N := 69) ?hd (xs := ([] : List Int)) (inner := []) (ok := fun _ => True) (okp := fun _ => True) ?hr ?hp (fun _ hk => hk) trivial (Below.refl _ _) (Nat.le_refl _) zq125 ?_; (case hd => rfl); (case hg => rfl); (case hr => first | (go_simp; done) | (go_simp; rfl)); (case hp => exact (Reps.none _ _)); intro v146 w71 ho72 hb hg_ hnew_; clear hg_ hnew_; (first | rw [← Ny145.out] at ho72 | (simp only [Int.reduceToNat] at ho72; rw [← Ny145.out] at ho72)); have HO147 := zA (Kd.R_lower ho72 (below_size zq0)); replace HB := zA (below_step zq0 hb); clear hb ho72))
       refine bodyPost_ret (results_list (rs := [.tmp 4, .tmp 5, .tmp 6, .tmp 7]) rfl zq125 (.tmp (.tmp (.tmp (.tmp .nil))))) rfl ?_
       exact ⟨_, zq122, (by (with_reducible repeat (first | apply Kd.R_alloc | apply Kd.R_drewN | apply Kd.R_drew)); exact HO147.out), zq0⟩
      ·rw [if_neg c69] at H
       have c69b0 : decide ((wrap64 ((l0.length : Int) - (wrap64 (a1 + 2)))) < (wrap64 (rd l0 (ji18)))) = false := decide_eq_false c69
       clear c69
       have HC73 := zA H
       clear H
       go_upto_region 12 with (fail)
       have H := HC73.out
       clear HC73
       obtain ⟨c74, H⟩ := zN H
       have c74b0 : decide (0 ≤ a1) = true := decide_eq_true c74
       clear c74
       obtain ⟨c75, H⟩ := zN H
       have c75b0 : decide (a1 < (l0.length : Int)) = true := decide_eq_true c75
       clear c75
       obtain ⟨y149, Ny149, H⟩ := zS (([] : List Int)) H
       obtain ⟨ji76, hji76⟩ : ∃ j_ : Int, (wrap64 (a1 + 2)) = j_ := ⟨_, rfl⟩
       replace H : (if 0 ≤ (ji76) then (if (ji76) ≤ (wrap64 ((ji76) + (wrap64 (rd l0 (ji18))))) then (if (wrap64 ((ji76) + (wrap64 (rd l0 (ji18))))) ≤ (l0.length : Int) then (if y149.length + ((l0.take ((wrap64 ((ji76) + (wrap64 (rd l0 (ji18))))) : Int).toNat).drop ((ji76) : Int).toNat).length < 140737488355328 then (some (wrap64 (rd l0 a1), (y149 ++ ((l0.take ((wrap64 ((ji76) + (wrap64 (rd l0 (ji18))))) : Int).toNat).drop ((ji76) : Int).toNat)), wrap64 ((ji76) + (wrap64 (rd l0 (ji18)))), true)) else (none)) else (none)) else (none)) else (none)) = some (r1, r2, r3, r4) := by first | (rw [hji76] at H; exact H) | (simp only [hji76] at H ⊢; exact H)
       (try rw [hji76] at c69b0)
       have hji76w : (IntKind.i64.wrap (a1 + 2)) = ji76 := (i64_w _).trans hji76
       obtain ⟨c77, H⟩ := zN H
       have c77b0 := eq_true c77
       have c77b1 : decide (0 ≤ (ji76)) = true := decide_eq_true c77
       clear c77
       obtain ⟨c78, H⟩ := zN H
       have c78b0 := eq_true c78
       have c78b1 : decide ((ji76) ≤ (wrap64 ((ji76) + (wrap64 (rd l0 (ji18)))))) = true := decide_eq_true c78
       obtain ⟨c79, H⟩ := zN H
       have c79b0 := eq_true c79
       have c79b1 : decide ((wrap64 ((ji76) + (wrap64 (rd l0 (ji18))))) ≤ (l0.length : Int)) = true := decide_eq_true c79
       obtain ⟨c80, H⟩ := zN H
       have LMc80 := zA c80
       clear c80
       obtain ⟨y153, hy153⟩ : ∃ y_ : List Int, y_ = (y149 ++ ((l0.take ((wrap64 ((ji76) + (wrap64 (rd l0 (ji18))))) : Int).toNat).drop ((ji76) : Int).toNat)) := ⟨_, rfl⟩
       rw [← hy153] at H
       have Ny153 := zA hy153
       clear hy153
       simp only [Option.some.injEq, Prod.mk.injEq] at H
       obtain ⟨rfl, rfl, rfl, rfl⟩ := H
       try go_wp2
       have n0_ := zA (below_drew1 HB.out)
       clear HB
       have HB := n0_
       clear n0_
       have p148 : 0 ≤ (a1 : Int) := of_decide_eq_true zq17
       have q148 : a1 < (l0.length : Int) := of_decide_eq_true zq17
       obtain ⟨ad148, e148, hx148_0⟩ := Kd.at_int HR0.out a1 p148 q148
       have hw148_0 := hx148_0
       obtain rfl : ad116 = ad148 := (by injection e148)
       replace hx148_0 := (HB.out.cell (World.block_lt_of_cell? w _ hx148_0)).trans hx148_0
       replace p148 := eq_true p148
       replace q148 := eq_true q148
       obtain ⟨i082, hi082, _, hsz82, _⟩ := info_parts info5
       obtain ⟨A82, hcut82, hA82, hC82⟩ := print_mid_of (P := Try.prog) (Value.int .u8) 0 22 5 .i64 .i64 Try.underlying22 hi082 hsz82 (some ad116) c0 l0 (ji76) (wrap64 ((ji76) + (wrap64 (rd l0 (ji18))))) (of_decide_eq_true zq17) zq166 (of_decide_eq_true zq17) HC0.out
       have HR152 := zA (Kd.C_of_reads (h1 := fun _ => rfl) (hA82 _ (Kd.reads_of_C HR0.out)))
       have HC152 := zA hC82
       clear hA82 hC82 hi082 hsz82
       refine start_ (n := 20) (S := fun w' => w'.cell? (ad116.add (a1).toNat) = some (.int .u8 (rd l0 a1))) (ds := []) #[false, false, false, false, false, false, false, false, false, false, false, false, false, false, false, false, false, false, false, false] (by kernel_rfl) rfl rfl (((HB.out.cell (World.block_lt_of_cell? w _ hw148_0)).trans hw148_0)) (fun hHeld => ?_); refine with_tabW spec_GetTlv.tab12 spec_GetTlv.bits12 (fun HT_ HW_ => ?_)
       generalize w.drew = w81 at HB HR152 hx148_0 hHeld ⊢
       refine pure_ (i := 0) (N := some 70) (v := ?_) (a' := ?_) #[true, false, false, false, false, false, false, false, false, false, false, false, false, false, false, false, false, false, false, false] rfl rfl (any_of HT_.out (by kernel_rfl)) (fun _ _ _ h => h) (Or.inl ⟨zq110, ?_⟩) ?_ ?_
       rotate_left
       ·intro w'
        go_simp
        with_reducible rfl
       rotate_left
       ·simp only [Act.put, List.setIfInBounds_toArray, List.set_cons_zero, List.set_cons_succ, i64_w, i32_w]
        rfl
       refine pure_ (i := 1) (N := some 71) (v := ?_) (a' := ?_) #[true, true, false, false, false, false, false, false, false, false, false, false, false, false, false, false, false, false, false, false] rfl rfl (any_of HT_.out (by kernel_rfl)) (fun _ _ _ h => h) (Or.inl ⟨zq110, ?_⟩) ?_ ?_
       rotate_left
       ·intro w'
        go_simp
        with_reducible rfl
       rotate_left
       ·simp only [Act.put, List.setIfInBounds_toArray, List.set_cons_zero, List.set_cons_succ, i64_w, i32_w]
        rfl
       refine pure_ (i := 2) (N := some 72) (v := ?_) (a' := ?_) #[true, true, true, false, false, false, false, false, false, false, false, false, false, false, false, false, false, false, false, false] rfl rfl (any_of HT_.out (by kernel_rfl)) (fun _ _ _ h => h) (Or.inl ⟨zq110, ?_⟩) ?_ ?_
       rotate_left
       ·intro w'
        go_simp
        with_reducible rfl
       rotate_left
       ·simp only [Act.put, List.setIfInBounds_toArray, List.set_cons_zero, List.set_cons_succ, i64_w, i32_w]
        rfl
       refine pure_ (i := 6) (N := some 76) (v := ?_) (a' := ?_) #[true, true, true, false, false, false, true, false, false, false, false, false, false, false, false, false, false, false, false, false] rfl rfl (any_of HT_.out (by kernel_rfl)) (fun _ _ _ h => h) (Or.inl ⟨zq110, ?_⟩) ?_ ?_
       rotate_left
       ·intro w'
        go_simp
        with_reducible rfl
       rotate_left
       ·simp only [Act.put, List.setIfInBounds_toArray, List.set_cons_zero, List.set_cons_succ, i64_w, i32_w]
        rfl
       refine pure_ (i := 7) (N := some 77) (v := ?_) (a' := ?_) #[true, true, true, false, false, false, true, true, false, false, false, false, false, false, false, false, false, false, false, false] rfl rfl (any_of HT_.out (by kernel_rfl)) (fun _ _ _ h => h) (Or.inl ⟨zq110, ?_⟩) ?_ ?_
       rotate_left
       ·intro w'
        go_simp
        with_reducible rfl
       rotate_left
       ·simp only [Act.put, List.setIfInBounds_toArray, List.set_cons_zero, List.set_cons_succ, i64_w, i32_w]
        rfl
       refine pure_ (i := 8) (N := some 78) (v := ?_) (a' := ?_) #[true, true, true, false, false, false, true, true, true, false, false, false, false, false, false, false, false, false, false, false] rfl rfl (any_of HT_.out (by kernel_rfl)) (fun _ _ _ h => h) (Or.inl ⟨zq110, ?_⟩) ?_ ?_
       rotate_left
       ·intro w'
        go_simp
        with_reducible rfl
       rotate_left
       ·simp only [Act.put, List.setIfInBounds_toArray, List.set_cons_zero, List.set_cons_succ, i64_w, i32_w]
        rfl
       refine pure_ (i := 9) (N := some 79) (v := ?_) (a' := ?_) #[true, true, true, false, false, false, true, true, true, true, false, false, false, false, false, false, false, false, false, false] rfl rfl (any_of HT_.out (by kernel_rfl)) (fun _ _ _ h => h) (Or.inl ⟨zq110, ?_⟩) ?_ ?_
       rotate_left
       ·intro w'
        go_simp
        with_reducible rfl
       rotate_left
       ·simp only [Act.put, List.setIfInBounds_toArray, List.set_cons_zero, List.set_cons_succ, i64_w, i32_w]
        rfl
       refine pure_ (i := 10) (N := some 80) (v := ?_) (a' := ?_) #[true, true, true, false, false, false, true, true, true, true, true, false, false, false, false, false, false, false, false, false] rfl rfl (any_of HT_.out (by kernel_rfl)) (fun _ _ _ h => h) (Or.inl ⟨zq110, ?_⟩) ?_ ?_
       rotate_left
       ·intro w'
        go_simp
        with_reducible rfl
       rotate_left
       ·simp only [Act.put, List.setIfInBounds_toArray, List.set_cons_zero, List.set_cons_succ, i64_w, i32_w]
        rfl
       refine pure_ (i := 11) (N := some 81) (v := ?_) (a' := ?_) #[true, true, true, false, false, false, true, true, true, true, true, true, false, false, false, false, false, false, false, false] rfl rfl (any_of HT_.out (by kernel_rfl)) (fun _ _ _ h => h) (Or.inl ⟨zq110, ?_⟩) ?_ ?_
       rotate_left
       ·intro w'
        go_simp
        with_reducible rfl
       rotate_left
       ·simp only [Act.put, List.setIfInBounds_toArray, List.set_cons_zero, List.set_cons_succ, i64_w, i32_w]
        rfl
       refine pure_ (i := 13) (N := some 83) (v := ?_) (a' := ?_) #[true, true, true, false, false, false, true, true, true, true, true, true, false, true, false, false, false, false, false, false] rfl rfl (any_of HT_.out (by kernel_rfl)) (fun _ _ _ h => h) (Or.inl ⟨zq110, ?_⟩) ?_ ?_
       rotate_left
       ·intro w'
        go_simp
        with_reducible rfl
       rotate_left
       ·simp only [Act.put, List.setIfInBounds_toArray, List.set_cons_zero, List.set_cons_succ, i64_w, i32_w]
        rfl
       refine pure_ (i := 14) (N := some 84) (v := ?_) (a' := ?_) #[true, true, true, false, false, false, true, true, true, true, true, true, false, true, true, false, false, false, false, false] rfl rfl (any_of HT_.out (by kernel_rfl)) (fun _ _ _ h => h) (Or.inl ⟨zq110, ?_⟩) ?_ ?_
       rotate_left
       ·intro w'
        go_simp
        with_reducible rfl
       rotate_left
       ·simp only [Act.put, List.setIfInBounds_toArray, List.set_cons_zero, List.set_cons_succ, i64_w, i32_w]
        rfl
       refine pure_ (i := 15) (N := some 85) (v := ?_) (a' := ?_) #[true, true, true, false, false, false, true, true, true, true, true, true, false, true, true, true, false, false, false, false] rfl rfl (any_of HT_.out (by kernel_rfl)) (fun _ _ _ h => h) (Or.inl ⟨zq110, ?_⟩) ?_ ?_
       rotate_left
       ·intro w'
        go_simp
        with_reducible rfl
       rotate_left
       ·simp only [Act.put, List.setIfInBounds_toArray, List.set_cons_zero, List.set_cons_succ, i64_w, i32_w]
        rfl
       refine take_ (i := 3) (N := some 73) (v := ?_) (a' := ?_) #[true, true, true, true, false, false, true, true, true, true, true, true, false, true, true, true, false, false, false, false] rfl rfl (take_ofW HT_.out HW_.out (by kernel_rfl)) (fun _ _ _ h => h) (Or.inl ⟨zq110, ?_⟩) hHeld ?_ ?_
       rotate_left
       ·intro w' s0
        go_simp
        with_reducible rfl
       rotate_left
       ·simp only [Act.put, List.setIfInBounds_toArray, List.set_cons_zero, List.set_cons_succ, i64_w, i32_w]
        rfl
       refine pure_ (i := 4) (N := some 74) (v := ?_) (a' := ?_) #[true, true, true, true, true, false, true, true, true, true, true, true, false, true, true, true, false, false, false, false] rfl rfl (any_of HT_.out (by kernel_rfl)) (fun _ _ _ h => h) (Or.inl ⟨zq110, ?_⟩) ?_ ?_
       rotate_left
       ·intro w'
        go_simp
        with_reducible rfl
       rotate_left
       ·simp only [Act.put, List.setIfInBounds_toArray, List.set_cons_zero, List.set_cons_succ, i64_w, i32_w]
        rfl
       refine one_ (i := 5) (N := some 75) #[true, true, true, true, true, true, true, true, true, true, true, true, false, true, true, true, false, false, false, false] rfl rfl (one_of HT_.out (by kernel_rfl)) zq40 (fun K hK => ?_)
       refine Kd.R_lit_step (Kd.int .u8) _ 5 ?hg (N := 75) ?hd (xs := ([] : List Int)) (inner := []) (ok := fun _ => True) (okp := fun _ => True) ?hr ?hp (fun _ hk => hk) trivial (Below.refl _ _) (Nat.le_refl _) zq125 ?_; (case hd => rfl); (case hg => rfl); (case hr => first | (go_simp; done) | (go_simp; rfl)); (case hp => exact (Reps.none _ _))
       intro v150 w83 ho84 hb hg_ hnew_
       clear hg_ hnew_
       (first | rw [← Ny149.out] at ho84 | (simp only [Int.reduceToNat] at ho84; rw [← Ny149.out] at ho84))
       have n0_ := zA (Kd.R_lower ho84 (below_size zq0))
       have n1_ := zA (below_step zq0 hb)
       clear HB
       have HO151 := n0_
       have HB := n1_
       clear n0_ n1_
       clear hb ho84
       refine hK.out _ _ (((HB.out.cell (World.block_lt_of_cell? w _ hw148_0)).trans hw148_0)) (fun hHeld => ?_)
       clear hK K
       refine norm_ (a' := ?_) ?_ ?_
       rotate_left
       ·show Act.put _ (some 75) _ = _
        simp only [Act.put, List.setIfInBounds_toArray, List.set_cons_zero, List.set_cons_succ, i64_w, i32_w]
        rfl
       refine one_ (i := 12) (N := some 82) #[true, true, true, true, true, true, true, true, true, true, true, true, true, true, true, true, false, false, false, false] rfl rfl (one_of HT_.out (by kernel_rfl)) zq40 (fun K hK => ?_)
       refine Kd.R_append_rows_step (Kd.int .u8) (w0 := w) w.heap.size zq110 (.tmp 75) (.tmp 81) 22 5 (.int .u8 0) 1 rfl Try.underlying22 info5 rfl zq40 zq177 v150 y149 ((l0.take ((wrap64 ((ji76) + (wrap64 (rd l0 (ji18))))) : Int).toNat).drop ((ji76) : Int).toNat) _ _ _ (fun _ => True) (fun _ => False) rfl rfl ?aO ?aR (fun _ _ h => h) (fun _ h => h.elim) ?aF ?aB ?aS ?aL ?_
       (case aR => first | (rw [← show ((l0.take ((wrap64 ((ji76) + (wrap64 (rd l0 (ji18))))) : Int).toNat).drop ((ji76) : Int).toNat).length = ((wrap64 ((ji76) + (wrap64 (rd l0 (ji18))))).toNat - (ji76).toNat) from zq184]; repeat (first | exact (Kd.C_below HR152.out HB.out) | (with_reducible refine Kd.C_alloc ?_ _) | (with_reducible refine Kd.C_drewN ?_ _) | (with_reducible refine Kd.C_drew ?_))) | (repeat (first | exact (Kd.C_below HR152.out HB.out) | (with_reducible refine Kd.C_alloc ?_ _) | (with_reducible refine Kd.C_drewN ?_ _) | (with_reducible refine Kd.C_drew ?_))))
       (case aB => exact zq0)
       (case aF => exact (fun _ _ => trivial))
       (case aO => exact (by (with_reducible repeat (first | apply Kd.R_alloc | apply Kd.R_drewN | apply Kd.R_drew)); exact HO151.out))
       (case aS => exact (below_size zq0))
       (case aL => have := LMc80.out; have hlx_ := (show ((l0.take ((wrap64 ((ji76) + (wrap64 (rd l0 (ji18))))) : Int).toNat).drop ((ji76) : Int).toNat).length = ((wrap64 ((ji76) + (wrap64 (rd l0 (ji18))))).toNat - (ji76).toNat) from zq184); omega)
       intro v154 w85 ho hb hg hat
       rw [← Ny153.out] at ho
       have n0_ := zA (hb)
       have n1_ := zA (ho)
       clear HB
       clear HO151
       have HB := n0_
       have HO155 := n1_
       clear n0_ n1_
       clear ho hb hg hat
       refine hK.out _ _ (((HB.out.cell (World.block_lt_of_cell? w _ hw148_0)).trans hw148_0)) (fun hHeld => ?_)
       clear hK K
       refine norm_ (a' := ?_) ?_ ?_
       rotate_left
       ·show Act.put _ (some 82) _ = _
        simp only [Act.put, List.setIfInBounds_toArray, List.set_cons_zero, List.set_cons_succ, i64_w, i32_w]
        rfl
       refine pure_ (i := 16) (N := some 4) (v := ?_) (a' := ?_) #[true, true, true, true, true, true, true, true, true, true, true, true, true, true, true, true, true, false, false, false] rfl rfl (any_of HT_.out (by kernel_rfl)) (fun _ _ _ h => h) (Or.inl ⟨zq110, ?_⟩) ?_ ?_
       rotate_left
       ·intro w'
        go_simp
        with_reducible rfl
       rotate_left
       ·simp only [Act.put, List.setIfInBounds_toArray, List.set_cons_zero, List.set_cons_succ, i64_w, i32_w]
        rfl
       refine pure_ (i := 17) (N := some 5) (v := ?_) (a' := ?_) #[true, true, true, true, true, true, true, true, true, true, true, true, true, true, true, true, true, true, false, false] rfl rfl (any_of HT_.out (by kernel_rfl)) (fun _ _ _ h => h) (Or.inl ⟨zq110, ?_⟩) ?_ ?_
       rotate_left
       ·intro w'
        go_simp
        with_reducible rfl
       rotate_left
       ·simp only [Act.put, List.setIfInBounds_toArray, List.set_cons_zero, List.set_cons_succ, i64_w, i32_w]
        rfl
       refine pure_ (i := 18) (N := some 6) (v := ?_) (a' := ?_) #[true, true, true, true, true, true, true, true, true, true, true, true, true, true, true, true, true, true, true, false] rfl rfl (any_of HT_.out (by kernel_rfl)) (fun _ _ _ h => h) (Or.inl ⟨zq110, ?_⟩) ?_ ?_
       rotate_left
       ·intro w'
        go_simp
        with_reducible rfl
       rotate_left
       ·simp only [Act.put, List.setIfInBounds_toArray, List.set_cons_zero, List.set_cons_succ, i64_w, i32_w]
        rfl
       refine pure_ (i := 19) (N := some 7) (v := ?_) (a' := ?_) #[true, true, true, true, true, true, true, true, true, true, true, true, true, true, true, true, true, true, true, true] rfl rfl (any_of HT_.out (by kernel_rfl)) (fun _ _ _ h => h) (Or.inl ⟨zq110, ?_⟩) ?_ ?_
       rotate_left
       ·intro w'
        go_simp
        with_reducible rfl
       rotate_left
       ·simp only [Act.put, List.setIfInBounds_toArray, List.set_cons_zero, List.set_cons_succ, i64_w, i32_w]
        rfl
       refine done_ (done_of HT_.out (by kernel_rfl)) ?_
       try go_wp2
       refine bodyPost_ret (results_list (rs := [.tmp 4, .tmp 5, .tmp 6, .tmp 7]) rfl zq125 (.tmp (.tmp (.tmp (.tmp .nil))))) rfl ?_
       exact ⟨_, (by first | rfl | (simp [errW_none, errW_some] <;> rfl) | (simp only [← hji18, ← hji76]; first | rfl | (simp [errW_none, errW_some] <;> rfl)) | (simp [*, errW_none, errW_some] <;> rfl)), (by (with_reducible repeat (first | apply Kd.R_alloc | apply Kd.R_drewN | apply Kd.R_drew)); exact HO155.out), zq0⟩

end Go.Proofs.Ytkcgghgkmgbphaa.PFnFrames
