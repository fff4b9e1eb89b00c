-- WRITTEN BY a turned copy of the kit's printer (wip/patch_print.py), for this claim
import Derived.Test.YtkcgghgkmgbphaaPFnVecsx0
import Derived.Test.YtkcgghgkmgbphaaPFnVecsx5
import Derived.Test.YtkcgghgkmgbphaaPFnVecsx8
namespace Go.Proofs.Ytkcgghgkmgbphaa.PFnVecs
open Go.RowKit Go.Proofs.YtkcgghgkmgbphaaW.PrintWords Go.Proofs.YtkcgghgkmgbphaaW.PrintLast Go.Proofs.YtkcgghgkmgbphaaW.PrintMore
attribute [local go_sem] max2_int min2_int max_two min_two max_three min_three max_four min_four   -- for this text's walks alone
set_option linter.unusedVariables false
set_option linter.unusedSimpArgs false

attribute [local go_sem] cell_setCell_m
/-! ### spec_l1Byte: function 184 -/
def spec_l1Byte.f (s0_0 : List Int) (s0_1 : Int) (s0_2 : Int) : Option (Int × Int × Int) := if s0_1 < (s0_0.length : Int) then (if 0 ≤ s0_1 then (some (Go.bits .and .i64 (wrap64 ((Go.bits .and .i64 (Go.bits .xor .i64 ((wrap64 ((wrap64 (s0_2 * 6364136223846793005)) + 1442695040888963407)) / 8589934592) ((wrap64 ((wrap64 (s0_2 * 6364136223846793005)) + 1442695040888963407)) / 140737488355328)) 255) + (wrap64 (rd s0_0 s0_1)))) 255, wrap64 (s0_1 + 1), wrap64 ((wrap64 (s0_2 * 6364136223846793005)) + 1442695040888963407))) else (none)) else (some (Go.bits .and .i64 (Go.bits .xor .i64 ((wrap64 ((wrap64 (s0_2 * 6364136223846793005)) + 1442695040888963407)) / 8589934592) ((wrap64 ((wrap64 (s0_2 * 6364136223846793005)) + 1442695040888963407)) / 140737488355328)) 255, s0_1, wrap64 ((wrap64 (s0_2 * 6364136223846793005)) + 1442695040888963407)))
set_option maxHeartbeats 8000000 in
set_option maxRecDepth 100000 in
theorem spec_l1Byte.calls (g : Nat) (s0_0 : List Int) (s0_1 : Int) (s0_2 : Int) (r1 : Int) (r2 : Int) (r3 : Int) (w0 w : World) (hI : IsS170 w0 w g s0_0 s0_1 s0_2) (hB : Below w0.heap.size w0 w) (h : spec_l1Byte.f s0_0 s0_1 s0_2 = some (r1, r2, r3)) :
  Calls Try.prog 184 #[.pointer (some ⟨g, 0, none⟩)] w fun e w' => e = .returned (.int .i64 r1) ∧ IsS170 w0 w' g s0_0 r2 r3 ∧ Below w0.heap.size w0 w' ∧ KeepBut w w' g none := by
 have HI0 := zA hI
 have HK := zA (KeepBut.refl w g none)
 have HL := zA hB.size
 clear hI
 have HW0 := zA hB.size
 have HB := zA hB
 clear hB
 have H : (if s0_1 < (s0_0.length : Int) then (if 0 ≤ s0_1 then (some (Go.bits .and .i64 (wrap64 ((Go.bits .and .i64 (Go.bits .xor .i64 ((wrap64 ((wrap64 (s0_2 * 6364136223846793005)) + 1442695040888963407)) / 8589934592) ((wrap64 ((wrap64 (s0_2 * 6364136223846793005)) + 1442695040888963407)) / 140737488355328)) 255) + (wrap64 (rd s0_0 s0_1)))) 255, wrap64 (s0_1 + 1), wrap64 ((wrap64 (s0_2 * 6364136223846793005)) + 1442695040888963407))) else (none)) else (some (Go.bits .and .i64 (Go.bits .xor .i64 ((wrap64 ((wrap64 (s0_2 * 6364136223846793005)) + 1442695040888963407)) / 8589934592) ((wrap64 ((wrap64 (s0_2 * 6364136223846793005)) + 1442695040888963407)) / 140737488355328)) 255, s0_1, wrap64 ((wrap64 (s0_2 * 6364136223846793005)) + 1442695040888963407)))) = some (r1, r2, r3) := h
 clear h
 by_cases c2 : s0_1 < (s0_0.length : Int)
 ·rw [if_pos c2] at H
  have c2b0 : decide (s0_1 < (s0_0.length : Int)) = true := decide_eq_true c2
  clear c2
  by_cases c3 : 0 ≤ s0_1
  ·rw [if_pos c3] at H
   have c3b0 : decide (0 ≤ s0_1) = true := decide_eq_true c3
   clear c3
   simp only [Option.some.injEq, Prod.mk.injEq] at H
   obtain ⟨rfl, rfl, rfl⟩ := H
   obtain ⟨ASz4_0, cSz4_0, HGz4, hgz4, ⟨HSz4_0, HSKz4_0⟩⟩ := HI0.out
   have HSCz4_0 := zA HSKz4_0
   clear HSKz4_0
   have hcz4_0 := cellS170_0 HGz4
   have hcz4_1 := cellS170_1 HGz4
   have hcz4_2 := cellS170_2 HGz4
   have hfz4_1 := blk_frozen HGz4 1
   have hfz4_2 := blk_frozen HGz4 2
   clear HGz4 hgz4
   have p292 : 0 ≤ (s0_1 : Int) := of_decide_eq_true zq4
   have q292 : s0_1 < (s0_0.length : Int) := of_decide_eq_true zq4
   obtain ⟨ad292, e292, hx292_0⟩ := Kd.at_int HSz4_0 s0_1 p292 q292
   cases e292
   have hn292_0 : ad292.block ≠ g := Nat.ne_of_lt (Nat.lt_of_lt_of_le (by have := World.block_lt_of_cell? _ _ hx292_0; first | rwa [add_block] at this | exact this) (IsS170.ge HI0.out))
   replace hx292_0 := pw_cell_below HB.out hx292_0
   replace hx292_0 := (cell_far (p := ⟨g, 2, none⟩) (by first | (rw [add_block]; exact hn292_0) | (show (Addr.add _ _).block ≠ _; rw [add_block]; exact hn292_0) | exact hn292_0) (.int .i64 (wrap64 ((wrap64 (s0_2 * 6364136223846793005)) + 1442695040888963407)))).trans hx292_0
   (try have hy292_0 := fun (n_ : Nat) => (show (((w.drewN n_).setCell ⟨g, 2, none⟩ (.int .i64 (wrap64 ((wrap64 (s0_2 * 6364136223846793005)) + 1442695040888963407))))).cell? _ = some _ from hx292_0))
   clear hn292_0
   replace p292 := eq_true p292
   replace q292 := eq_true q292
   go_enter Try.func184, Try.ntmps184
   go_wp2
   repeat (go_quiet (fail); try go_wp2)
   go_ret
   exact ⟨by first | rfl | (simp [errW_none, errW_some] <;> rfl) | (simp [*, errW_none, errW_some] <;> rfl), by repeat (first | (with_reducible first | exact HI0.out | apply IsS170.alloc | apply IsS170.drewN | apply IsS170.drew | apply IsS170.set_1 | apply IsS170.set_2) | exact HI0.out), by repeat (first | (with_reducible first | exact HB.out | apply below_alloc | apply pw_below_drewN | apply below_drew1 | refine below_set ?_ (IsS170.ge HI0.out)) | exact HB.out), by repeat (first | (with_reducible first | exact HK.out | apply KeepBut.set_ | apply keep_drewN | apply keep_drew | apply keep_alloc) | exact HK.out)⟩
  ·rw [if_neg c3] at H
   exact absurd H zq48
 ·rw [if_neg c2] at H
  have c2b0 : decide (s0_1 < (s0_0.length : Int)) = false := decide_eq_false c2
  clear c2
  simp only [Option.some.injEq, Prod.mk.injEq] at H
  obtain ⟨rfl, rfl, rfl⟩ := H
  obtain ⟨ASz5_0, cSz5_0, HGz5, hgz5, ⟨HSz5_0, HSKz5_0⟩⟩ := HI0.out
  have HSCz5_0 := zA HSKz5_0
  clear HSKz5_0
  have hcz5_0 := cellS170_0 HGz5
  have hcz5_1 := cellS170_1 HGz5
  have hcz5_2 := cellS170_2 HGz5
  have hfz5_1 := blk_frozen HGz5 1
  have hfz5_2 := blk_frozen HGz5 2
  clear HGz5 hgz5
  go_enter Try.func184, Try.ntmps184
  go_wp2
  repeat (go_quiet (fail); try go_wp2)
  go_ret
  exact ⟨by first | rfl | (simp [errW_none, errW_some] <;> rfl) | (simp [*, errW_none, errW_some] <;> rfl), by repeat (first | (with_reducible first | exact HI0.out | apply IsS170.alloc | apply IsS170.drewN | apply IsS170.drew | apply IsS170.set_1 | apply IsS170.set_2) | exact HI0.out), by repeat (first | (with_reducible first | exact HB.out | apply below_alloc | apply pw_below_drewN | apply below_drew1 | refine below_set ?_ (IsS170.ge HI0.out)) | exact HB.out), by repeat (first | (with_reducible first | exact HK.out | apply KeepBut.set_ | apply keep_drewN | apply keep_drew | apply keep_alloc) | exact HK.out)⟩

/-! ### spec_l1Below: function 131 -/
def spec_l1Below.f (s0_0 : List Int) (s0_1 : Int) (s0_2 : Int) (a1 : Int) : Option (Int × Int × Int) := if a1 ≤ 0 then (some (0, s0_1, s0_2)) else (if a1 ≤ 256 then ((spec_l1Byte.f s0_0 s0_1 s0_2).bind fun bt293 => (if a1 = 0 then (none) else (some (Int.tmod bt293.1 a1, bt293.2.1, bt293.2.2)))) else ((spec_l1Byte.f s0_0 s0_1 s0_2).bind fun bt296 => ((spec_l1Byte.f s0_0 bt296.2.1 bt296.2.2).bind fun bt299 => ((spec_l1Byte.f s0_0 bt299.2.1 bt299.2.2).bind fun bt302 => (if a1 = 0 then (none) else (some (Int.tmod (wrap64 ((wrap64 ((wrap64 (bt296.1 * 65536)) + (wrap64 (bt299.1 * 256)))) + bt302.1)) a1, bt302.2.1, bt302.2.2)))))))
set_option maxHeartbeats 8000000 in
set_option maxRecDepth 100000 in
theorem spec_l1Below.calls (g : Nat) (s0_0 : List Int) (s0_1 : Int) (s0_2 : Int) (a1 : Int) (r1 : Int) (r2 : Int) (r3 : Int) (w0 w : World) (hI : IsS170 w0 w g s0_0 s0_1 s0_2) (hB : Below w0.heap.size w0 w) (h : spec_l1Below.f s0_0 s0_1 s0_2 a1 = some (r1, r2, r3)) :
  Calls Try.prog 131 #[.pointer (some ⟨g, 0, none⟩), .int .i64 a1] w fun e w' => e = .returned (.int .i64 r1) ∧ IsS170 w0 w' g s0_0 r2 r3 ∧ Below w0.heap.size w0 w' ∧ KeepBut w w' g none := by
 have HI0 := zA hI
 have HK := zA (KeepBut.refl w g none)
 have HL := zA hB.size
 clear hI
 have HW0 := zA hB.size
 have HB := zA hB
 clear hB
 have H : (if a1 ≤ 0 then (some (0, s0_1, s0_2)) else (if a1 ≤ 256 then ((spec_l1Byte.f s0_0 s0_1 s0_2).bind fun bt293 => (if a1 = 0 then (none) else (some (Int.tmod bt293.1 a1, bt293.2.1, bt293.2.2)))) else ((spec_l1Byte.f s0_0 s0_1 s0_2).bind fun bt296 => ((spec_l1Byte.f s0_0 bt296.2.1 bt296.2.2).bind fun bt299 => ((spec_l1Byte.f s0_0 bt299.2.1 bt299.2.2).bind fun bt302 => (if a1 = 0 then (none) else (some (Int.tmod (wrap64 ((wrap64 ((wrap64 (bt296.1 * 65536)) + (wrap64 (bt299.1 * 256)))) + bt302.1)) a1, bt302.2.1, bt302.2.2)))))))) = some (r1, r2, r3) := h
 clear h
 by_cases c3 : a1 ≤ 0
 ·rw [if_pos c3] at H
  have c3b0 : decide (a1 ≤ 0) = true := decide_eq_true c3
  clear c3
  simp only [Option.some.injEq, Prod.mk.injEq] at H
  obtain ⟨rfl, rfl, rfl⟩ := H
  go_enter Try.func131, Try.ntmps131
  go_wp2
  go_ret
  exact ⟨by first | rfl | (simp [errW_none, errW_some] <;> rfl) | (simp [*, errW_none, errW_some] <;> rfl), by repeat (first | (with_reducible first | exact HI0.out | apply IsS170.alloc | apply IsS170.drewN | apply IsS170.drew | apply IsS170.set_1 | apply IsS170.set_2) | exact HI0.out), by repeat (first | (with_reducible first | exact HB.out | apply below_alloc | apply pw_below_drewN | apply below_drew1 | refine below_set ?_ (IsS170.ge HI0.out)) | exact HB.out), by repeat (first | (with_reducible first | exact HK.out | apply KeepBut.set_ | apply keep_drewN | apply keep_drew | apply keep_alloc) | exact HK.out)⟩
 ·rw [if_neg c3] at H
  have c3b0 : decide (a1 ≤ 0) = false := decide_eq_false c3
  clear c3
  by_cases c4 : a1 ≤ 256
  ·rw [if_pos c4] at H
   have c4b0 : decide (a1 ≤ 256) = true := decide_eq_true c4
   clear c4
   obtain ⟨⟨t293, t294, t295⟩, A5, H⟩ := zB H
   try dsimp only at H
   by_cases c6 : a1 = 0
   ·rw [if_pos c6] at H
    exact absurd H zq48
   ·rw [if_neg c6] at H
    have c6b0 : (a1 == 0) = false := beq_eq_false_iff_ne.mpr c6
    have c6b1 : (a1 != 0) = true := bne_iff_ne.mpr c6
    simp only [Option.some.injEq, Prod.mk.injEq] at H
    obtain ⟨rfl, rfl, rfl⟩ := H
    go_enter Try.func131, Try.ntmps131
    go_wp2_with (first | ((with_reducible refine gate_callee (f := 184) rfl ?_); refine goesL_ (some 13) rfl rfl Try.func184 (by kernel_rfl) rfl #[.pointer (some ⟨g, 0, none⟩)] rfl zq1 ?_; (with_reducible refine (spec_l1Byte.calls g s0_0 s0_1 s0_2 t293 t294 t295 w0 _ ?side1 ?side2 A5.out).mono ?_); (case side1 => repeat (first | (with_reducible first | exact HI0.out | apply IsS170.alloc | apply IsS170.drewN | apply IsS170.drew | apply IsS170.set_1 | apply IsS170.set_2) | exact HI0.out)); (case side2 => repeat (first | (with_reducible first | exact HB.out | apply below_alloc | apply pw_below_drewN | apply below_drew1 | refine below_set ?_ (IsS170.ge HI0.out)) | exact HB.out)); rintro e w7 ⟨rfl, hi, hb, hk⟩; refine ⟨_, rfl, ?_⟩; replace HK := zA (KeepBut.trans zq2 hk (.inl rfl)); replace HB := zA (hb); replace HI0 := zA (hi); clear hb hk hi))
    go_ret
    exact ⟨by first | rfl | (simp [errW_none, errW_some] <;> rfl) | (simp [*, errW_none, errW_some] <;> rfl), by repeat (first | (with_reducible first | exact HI0.out | apply IsS170.alloc | apply IsS170.drewN | apply IsS170.drew | apply IsS170.set_1 | apply IsS170.set_2) | exact HI0.out), by repeat (first | (with_reducible first | exact HB.out | apply below_alloc | apply pw_below_drewN | apply below_drew1 | refine below_set ?_ (IsS170.ge HI0.out)) | exact HB.out), by repeat (first | (with_reducible first | exact HK.out | apply KeepBut.set_ | apply keep_drewN | apply keep_drew | apply keep_alloc) | exact HK.out)⟩
  ·rw [if_neg c4] at H
   have c4b0 : decide (a1 ≤ 256) = false := decide_eq_false c4
   clear c4
   obtain ⟨⟨t296, t297, t298⟩, A8, H⟩ := zB H
   try dsimp only at H
   obtain ⟨⟨t299, t300, t301⟩, A9, H⟩ := zB H
   try dsimp only at H
   obtain ⟨⟨t302, t303, t304⟩, A10, H⟩ := zB H
   try dsimp only at H
   by_cases c11 : a1 = 0
   ·rw [if_pos c11] at H
    exact absurd H zq48
   ·rw [if_neg c11] at H
    have c11b0 : (a1 == 0) = false := beq_eq_false_iff_ne.mpr c11
    have c11b1 : (a1 != 0) = true := bne_iff_ne.mpr c11
    simp only [Option.some.injEq, Prod.mk.injEq] at H
    obtain ⟨rfl, rfl, rfl⟩ := H
    go_enter Try.func131, Try.ntmps131
    go_wp2_with (first | ((with_reducible refine gate_callee (f := 184) rfl ?_); refine goesL_ (some 17) rfl rfl Try.func184 (by kernel_rfl) rfl #[.pointer (some ⟨g, 0, none⟩)] rfl zq1 ?_; (with_reducible refine (spec_l1Byte.calls g s0_0 s0_1 s0_2 t296 t297 t298 w0 _ ?side1 ?side2 A8.out).mono ?_); (case side1 => repeat (first | (with_reducible first | exact HI0.out | apply IsS170.alloc | apply IsS170.drewN | apply IsS170.drew | apply IsS170.set_1 | apply IsS170.set_2) | exact HI0.out)); (case side2 => repeat (first | (with_reducible first | exact HB.out | apply below_alloc | apply pw_below_drewN | apply below_drew1 | refine below_set ?_ (IsS170.ge HI0.out)) | exact HB.out)); rintro e w12 ⟨rfl, hi, hb, hk⟩; refine ⟨_, rfl, ?_⟩; replace HK := zA (KeepBut.trans zq2 hk (.inl rfl)); replace HB := zA (hb); replace HI0 := zA (hi); clear hb hk hi) | ((with_reducible refine gate_callee (f := 184) rfl ?_); refine goesL_ (some 19) rfl rfl Try.func184 (by kernel_rfl) rfl #[.pointer (some ⟨g, 0, none⟩)] rfl zq1 ?_; (with_reducible refine (spec_l1Byte.calls g s0_0 t297 t298 t299 t300 t301 w0 _ ?side1 ?side2 A9.out).mono ?_); (case side1 => repeat (first | (with_reducible first | exact HI0.out | apply IsS170.alloc | apply IsS170.drewN | apply IsS170.drew | apply IsS170.set_1 | apply IsS170.set_2) | exact HI0.out)); (case side2 => repeat (first | (with_reducible first | exact HB.out | apply below_alloc | apply pw_below_drewN | apply below_drew1 | refine below_set ?_ (IsS170.ge HI0.out)) | exact HB.out)); rintro e w13 ⟨rfl, hi, hb, hk⟩; refine ⟨_, rfl, ?_⟩; replace HK := zA (KeepBut.trans zq2 hk (.inl rfl)); replace HB := zA (hb); replace HI0 := zA (hi); clear hb hk hi) | ((with_reducible refine gate_callee (f := 184) rfl ?_); refine goesL_ (some 21) rfl rfl Try.func184 (by kernel_rfl) rfl #[.pointer (some ⟨g, 0, none⟩)] rfl zq1 ?_; (with_reducible refine (spec_l1Byte.calls g s0_0 t300 t301 t302 t303 t304 w0 _ ?side1 ?side2 A10.out).mono ?_); (case side1 => repeat (first | (with_reducible first | exact HI0.out | apply IsS170.alloc | apply IsS170.drewN | apply IsS170.drew | apply IsS170.set_1 | apply IsS170.set_2) | exact HI0.out)); (case side2 => repeat (first | (with_reducible first | exact HB.out | apply below_alloc | apply pw_below_drewN | apply below_drew1 | refine below_set ?_ (IsS170.ge HI0.out)) | exact HB.out)); rintro e w14 ⟨rfl, hi, hb, hk⟩; refine ⟨_, rfl, ?_⟩; replace HK := zA (KeepBut.trans zq2 hk (.inl rfl)); replace HB := zA (hb); replace HI0 := zA (hi); clear hb hk hi))
    go_ret
    exact ⟨by first | rfl | (simp [errW_none, errW_some] <;> rfl) | (simp [*, errW_none, errW_some] <;> rfl), by repeat (first | (with_reducible first | exact HI0.out | apply IsS170.alloc | apply IsS170.drewN | apply IsS170.drew | apply IsS170.set_1 | apply IsS170.set_2) | exact HI0.out), by repeat (first | (with_reducible first | exact HB.out | apply below_alloc | apply pw_below_drewN | apply below_drew1 | refine below_set ?_ (IsS170.ge HI0.out)) | exact HB.out), by repeat (first | (with_reducible first | exact HK.out | apply KeepBut.set_ | apply keep_drewN | apply keep_drew | apply keep_alloc) | exact HK.out)⟩

/-! ### spec_l1Int: function 140 -/
def spec_l1Int.f (s0_0 : List Int) (s0_1 : Int) (s0_2 : Int) (l1 : List Int) : Option (Int × Int × Int) := (spec_l1Below.f s0_0 s0_1 s0_2 (l1.length : Int)).bind fun bt305 => (if 0 ≤ bt305.1 then (if bt305.1 < (l1.length : Int) then (some (rd l1 bt305.1, bt305.2.1, bt305.2.2)) else (none)) else (none))
set_option maxHeartbeats 8000000 in
set_option maxRecDepth 100000 in
theorem spec_l1Int.calls (g : Nat) (s0_0 : List Int) (s0_1 : Int) (s0_2 : Int) (A1 : Option Addr) (c1 : Nat) (l1 : List Int) (r1 : Int) (r2 : Int) (r3 : Int) (w0 w : World) (hI : IsS170 w0 w g s0_0 s0_1 s0_2) (hB : Below w0.heap.size w0 w) (hr1 : Kd.C (Kd.int .i64) w A1 l1.length l1) (hc1 : l1.length ≤ c1) (hf1 : ∀ ad, A1 = some ad → 0 < l1.length → ad.block ≠ g) (h : spec_l1Int.f s0_0 s0_1 s0_2 l1 = some (r1, r2, r3)) :
  Calls Try.prog 140 #[.pointer (some ⟨g, 0, none⟩), .slice A1 l1.length c1] w fun e w' => e = .returned (.int .i64 r1) ∧ IsS170 w0 w' g s0_0 r2 r3 ∧ Below w0.heap.size w0 w' ∧ KeepBut w w' g none := by
 have HR1 := zA hr1
 have HC1 := zA hc1
 clear hr1 hc1
 have HI0 := zA hI
 have HK := zA (KeepBut.refl w g none)
 have HL := zA hB.size
 clear hI
 have HW0 := zA hB.size
 have HB := zA hB
 clear hB
 have H : ((spec_l1Below.f s0_0 s0_1 s0_2 (l1.length : Int)).bind fun bt305 => (if 0 ≤ bt305.1 then (if bt305.1 < (l1.length : Int) then (some (rd l1 bt305.1, bt305.2.1, bt305.2.2)) else (none)) else (none))) = some (r1, r2, r3) := h
 clear h
 obtain ⟨⟨t305, t306, t307⟩, A3, H⟩ := zB H
 try dsimp only at H
 by_cases c4 : 0 ≤ t305
 ·rw [if_pos c4] at H
  have c4b0 : decide (0 ≤ t305) = true := decide_eq_true c4
  clear c4
  by_cases c5 : t305 < (l1.length : Int)
  ·rw [if_pos c5] at H
   have c5b0 : decide (t305 < (l1.length : Int)) = true := decide_eq_true c5
   clear c5
   simp only [Option.some.injEq, Prod.mk.injEq] at H
   obtain ⟨rfl, rfl, rfl⟩ := H
   go_enter Try.func140, Try.ntmps140
   go_wp2_with (first | ((with_reducible refine gate_callee (f := 131) rfl ?_); refine goesL_ (some 9) rfl rfl Try.func131 (by kernel_rfl) rfl #[.pointer (some ⟨g, 0, none⟩), .int .i64 (l1.length : Int)] rfl zq1 ?_; (with_reducible refine (spec_l1Below.calls g s0_0 s0_1 s0_2 (l1.length : Int) t305 t306 t307 w0 _ ?side1 ?side2 A3.out).mono ?_); (case side1 => repeat (first | (with_reducible first | exact HI0.out | apply IsS170.alloc | apply IsS170.drewN | apply IsS170.drew | apply IsS170.set_1 | apply IsS170.set_2) | exact HI0.out)); (case side2 => repeat (first | (with_reducible first | exact HB.out | apply below_alloc | apply pw_below_drewN | apply below_drew1 | refine below_set ?_ (IsS170.ge HI0.out)) | exact HB.out)); rintro e w6 ⟨rfl, hi, hb, hk⟩; refine ⟨_, rfl, ?_⟩; replace HK := zA (KeepBut.trans zq2 hk (.inl rfl)); replace HB := zA (hb); replace HI0 := zA (hi); clear hb hk hi; have p308 : 0 ≤ (t305 : Int) := of_decide_eq_true zq4; have q308 : t305 < (l1.length : Int) := of_decide_eq_true zq4; obtain ⟨ad308, e308, hx308_0⟩ := Kd.at_int HR1.out t305 p308 q308; cases e308; replace hx308_0 := keep_cell HK.out hx308_0 (by first | (rw [add_block]; exact hf1 _ rfl zq128) | exact hf1 _ rfl zq128 | exact hf1 ad308 rfl zq128); replace p308 := eq_true p308; replace q308 := eq_true q308))
   go_ret
   exact ⟨by first | rfl | (simp [errW_none, errW_some] <;> rfl) | (simp [*, errW_none, errW_some] <;> rfl), by repeat (first | (with_reducible first | exact HI0.out | apply IsS170.alloc | apply IsS170.drewN | apply IsS170.drew | apply IsS170.set_1 | apply IsS170.set_2) | exact HI0.out), by repeat (first | (with_reducible first | exact HB.out | apply below_alloc | apply pw_below_drewN | apply below_drew1 | refine below_set ?_ (IsS170.ge HI0.out)) | exact HB.out), by repeat (first | (with_reducible first | exact HK.out | apply KeepBut.set_ | apply keep_drewN | apply keep_drew | apply keep_alloc) | exact HK.out)⟩
  ·rw [if_neg c5] at H
   exact absurd H zq48
 ·rw [if_neg c4] at H
  exact absurd H zq48

/-! ### spec_l7Draw: function 149 -/
def spec_l7Draw.f (s0_0 : List Int) (s0_1 : Int) (s0_2 : Int) : Option (Int × Int × Int × Int × Int × Int × Int) := (spec_l1Below.f s0_0 s0_1 s0_2 5).bind fun bt310 => ((spec_l1Int.f s0_0 bt310.2.1 bt310.2.2 (([0, 1, 2, 5, 10, 100] : List Int))).bind fun bt316 => ((spec_l1Int.f s0_0 bt316.2.1 bt316.2.2 (([0, 1, 2, 9, 10] : List Int))).bind fun bt322 => ((spec_l1Below.f s0_0 bt322.2.1 bt322.2.2 5).bind fun bt325 => ((spec_l1Below.f s0_0 bt325.2.1 bt325.2.2 4).bind fun bt328 => (some (wrap64 (1 + bt310.1), bt316.1, bt322.1, wrap64 (1 + bt325.1), bt328.1, bt328.2.1, bt328.2.2))))))
set_option maxHeartbeats 8000000 in
set_option maxRecDepth 100000 in
theorem spec_l7Draw.calls (g : Nat) (s0_0 : List Int) (s0_1 : Int) (s0_2 : Int) (r1 : Int) (r2 : Int) (r3 : Int) (r4 : Int) (r5 : Int) (r6 : Int) (r7 : Int) (w0 w : World) (hI : IsS170 w0 w g s0_0 s0_1 s0_2) (hB : Below w0.heap.size w0 w) (h : spec_l7Draw.f s0_0 s0_1 s0_2 = some (r1, r2, r3, r4, r5, r6, r7)) :
  Calls Try.prog 149 #[.pointer (some ⟨g, 0, none⟩)] w fun e w' => e = .returned (.agg #[.int .i64 r1, .int .i64 r2, .int .i64 r3, .int .i64 r4, .int .i64 r5]) ∧ IsS170 w0 w' g s0_0 r6 r7 ∧ Below w0.heap.size w0 w' ∧ KeepBut w w' g none := by
 have hu39 := Try.underlying39
 have HI0 := zA hI
 have HK := zA (KeepBut.refl w g none)
 have HL := zA hB.size
 clear hI
 have HW0 := zA hB.size
 have HB := zA hB
 clear hB
 have H : ((spec_l1Below.f s0_0 s0_1 s0_2 5).bind fun bt310 => ((spec_l1Int.f s0_0 bt310.2.1 bt310.2.2 (([0, 1, 2, 5, 10, 100] : List Int))).bind fun bt316 => ((spec_l1Int.f s0_0 bt316.2.1 bt316.2.2 (([0, 1, 2, 9, 10] : List Int))).bind fun bt322 => ((spec_l1Below.f s0_0 bt322.2.1 bt322.2.2 5).bind fun bt325 => ((spec_l1Below.f s0_0 bt325.2.1 bt325.2.2 4).bind fun bt328 => (some (wrap64 (1 + bt310.1), bt316.1, bt322.1, wrap64 (1 + bt325.1), bt328.1, bt328.2.1, bt328.2.2))))))) = some (r1, r2, r3, r4, r5, r6, r7) := h
 clear h
 obtain ⟨⟨t310, t311, t312⟩, A2, H⟩ := zB H
 try dsimp only at H
 obtain ⟨y313, hy313⟩ : ∃ y_ : List Int, y_ = (([0, 1, 2, 5, 10, 100] : List Int)) := ⟨_, rfl⟩
 replace H : ((spec_l1Int.f s0_0 t311 t312 y313).bind fun bt316 => ((spec_l1Int.f s0_0 bt316.2.1 bt316.2.2 (([0, 1, 2, 9, 10] : List Int))).bind fun bt322 => ((spec_l1Below.f s0_0 bt322.2.1 bt322.2.2 5).bind fun bt325 => ((spec_l1Below.f s0_0 bt325.2.1 bt325.2.2 4).bind fun bt328 => (some (wrap64 (1 + t310), bt316.1, bt322.1, wrap64 (1 + bt325.1), bt328.1, bt328.2.1, bt328.2.2)))))) = some (r1, r2, r3, r4, r5, r6, r7) := by first | (rw [hy313]; with_reducible exact H) | (have H2_ := (Option.bind_some _ _).symm.trans H; rw [hy313]; with_reducible exact H2_) | (have H2_ := (Option.bind_some _ _).symm.trans H; with_reducible exact H2_) | with_reducible exact H | (rw [hy313]; exact H) | exact H
 have Ny313 := zA hy313
 clear hy313
 obtain ⟨⟨t316, t317, t318⟩, A3, H⟩ := zB H
 try dsimp only at H
 obtain ⟨y319, hy319⟩ : ∃ y_ : List Int, y_ = (([0, 1, 2, 9, 10] : List Int)) := ⟨_, rfl⟩
 replace H : ((spec_l1Int.f s0_0 t317 t318 y319).bind fun bt322 => ((spec_l1Below.f s0_0 bt322.2.1 bt322.2.2 5).bind fun bt325 => ((spec_l1Below.f s0_0 bt325.2.1 bt325.2.2 4).bind fun bt328 => (some (wrap64 (1 + t310), t316, bt322.1, wrap64 (1 + bt325.1), bt328.1, bt328.2.1, bt328.2.2))))) = some (r1, r2, r3, r4, r5, r6, r7) := by first | (rw [hy319]; with_reducible exact H) | (have H2_ := (Option.bind_some _ _).symm.trans H; rw [hy319]; with_reducible exact H2_) | (have H2_ := (Option.bind_some _ _).symm.trans H; with_reducible exact H2_) | with_reducible exact H | (rw [hy319]; exact H) | exact H
 have Ny319 := zA hy319
 clear hy319
 obtain ⟨⟨t322, t323, t324⟩, A4, H⟩ := zB H
 try dsimp only at H
 obtain ⟨⟨t325, t326, t327⟩, A5, H⟩ := zB H
 try dsimp only at H
 obtain ⟨⟨t328, t329, t330⟩, A6, H⟩ := zB H
 try dsimp only at H
 simp only [Option.some.injEq, Prod.mk.injEq] at H
 obtain ⟨rfl, rfl, rfl, rfl, rfl, rfl, rfl⟩ := H
 go_enter Try.func149, Try.ntmps149
 go_wp2_with (first | ((with_reducible refine gate_dst (N := 2) rfl ?_); refine box_event ?hg (N := 2) ?hd (cs := #[.int .i64 0, .int .i64 0, .int .i64 0, .int .i64 0, .int .i64 0]) (t := 39) ?hr ?_; (case hd => rfl); (case hg => rfl); (case hr => first | (go_simp; done) | (go_simp; rfl)); intro gb309 hg w7 hbox hb; replace HB := zA (below_step zq31 hb); have BK309 := zA (hbox); have GW309 := zA ((zq21 : w.heap.size ≤ gb309)); have GE309 := zA ((Nat.le_trans HW0.out (zq21 : w.heap.size ≤ gb309) : w0.heap.size ≤ gb309)); replace HK := zA (KeepBut.trans zq2 (KeepBut.of_below hb g none) (.inl rfl)); have NB0_309 := zA ((zq40 : g ≠ gb309)); have NB309_0 := zA ((zq41 : gb309 ≠ g)); replace HI0 := zA (IsS170.below zq37 hb); clear hb hbox hg) | ((with_reducible refine gate_callee (f := 131) rfl ?_); refine goesL_ (some 4) rfl rfl Try.func131 (by kernel_rfl) rfl #[.pointer (some ⟨g, 0, none⟩), .int .i64 5] rfl zq1 ?_; (with_reducible refine (spec_l1Below.calls g s0_0 s0_1 s0_2 5 t310 t311 t312 w0 _ ?side1 ?side2 A2.out).mono ?_); (case side1 => repeat (first | (with_reducible first | exact HI0.out | apply IsS170.alloc | apply IsS170.drewN | apply IsS170.drew | apply IsS170.set_1 | apply IsS170.set_2 | refine IsS170.far ?_ NB0_309.out _) | exact HI0.out)); (case side2 => repeat (first | (with_reducible first | exact HB.out | apply below_alloc | apply pw_below_drewN | apply below_drew1 | refine below_set ?_ (IsS170.ge HI0.out) | refine below_set ?_ GE309.out) | exact HB.out)); rintro e w8 ⟨rfl, hi, hb, hk⟩; refine ⟨_, rfl, ?_⟩; replace BK309 := zA (KeepBut.blk hk (g' := gb309) (o := .cells #[.int .i64 0, .int .i64 0, .int .i64 0, .int .i64 0, .int .i64 0] 39 (0, 0)) zq83 NB309_0.out zq48); replace HK := zA (KeepBut.trans zq36 hk (.inl rfl)); replace HB := zA (hb); replace HI0 := zA (hi); clear hb hk hi) | ((with_reducible refine gate_dst (N := 7) rfl ?_); refine Kd.R_lit (Kd.int .i64) _ 3 ?hg (N := 7) ?hd (xs := ([0, 1, 2, 5, 10, 100] : List Int)) (inner := [.int .i64 0, .int .i64 1, .int .i64 2, .int .i64 5, .int .i64 10, .int .i64 100]) (ok := fun _ => True) (okp := fun _ => True) ?hr ?hp (fun _ hk => hk) trivial (Below.refl _ _) (Nat.le_refl _) zq48 ?_; (case hd => rfl); (case hg => rfl); (case hr => first | (go_simp; done) | (go_simp; rfl)); (case hp => exact (Reps.one (show Kd.M (Kd.int .i64) _ _ _ 0 [.int .i64 0] from rfl) (Reps.one (show Kd.M (Kd.int .i64) _ _ _ 1 [.int .i64 1] from rfl) (Reps.one (show Kd.M (Kd.int .i64) _ _ _ 2 [.int .i64 2] from rfl) (Reps.one (show Kd.M (Kd.int .i64) _ _ _ 5 [.int .i64 5] from rfl) (Reps.one (show Kd.M (Kd.int .i64) _ _ _ 10 [.int .i64 10] from rfl) (Reps.one (show Kd.M (Kd.int .i64) _ _ _ 100 [.int .i64 100] from rfl) (Reps.none _ _)))))))); intro v314 w9 ho10 hb hg_ hnew_; clear hg_ hnew_; (first | rw [← Ny313.out] at ho10 | (simp only [Int.reduceToNat] at ho10; rw [← Ny313.out] at ho10)); have HO315 := zA (Kd.R_lower ho10 (keep_size (w := w) (g := g) (row := none) zq36)); replace BK309 := zA (blk_below (g := gb309) (o := .cells #[.int .i64 0, .int .i64 0, .int .i64 0, .int .i64 0, .int .i64 0] 39 (0, 0)) zq83 hb); replace HK := zA (KeepBut.trans zq36 (KeepBut.of_below hb g none) (.inl rfl)); replace HB := zA (below_step zq133 hb); replace HI0 := zA (IsS170.below zq129 hb); clear hb ho10; obtain ⟨Ao11, co11, eo11⟩ := Kd.R_slice HO315.out; subst eo11) | ((with_reducible refine gate_callee (f := 140) rfl ?_); refine goesL_ (some 8) rfl rfl Try.func140 (by kernel_rfl) rfl #[.pointer (some ⟨g, 0, none⟩), .slice Ao11 y313.length co11] rfl zq1 ?_; (with_reducible refine (spec_l1Int.calls g s0_0 t311 t312 _ _ y313 t316 t317 t318 w0 _ ?side1 ?side2 ?side3 ?side4 ?side5 A3.out).mono ?_); (case side1 => repeat (first | (with_reducible first | exact HI0.out | apply IsS170.alloc | apply IsS170.drewN | apply IsS170.drew | apply IsS170.set_1 | apply IsS170.set_2 | refine IsS170.far ?_ NB0_309.out _) | exact HI0.out)); (case side2 => repeat (first | (with_reducible first | exact HB.out | apply below_alloc | apply pw_below_drewN | apply below_drew1 | refine below_set ?_ (IsS170.ge HI0.out) | refine below_set ?_ GE309.out) | exact HB.out)); (case side3 => repeat (first | exact (Kd.R_reads' HO315.out).2.2 | (with_reducible refine Kd.C_alloc ?_ _) | (with_reducible refine Kd.C_drewN ?_ _) | (with_reducible refine Kd.C_drew ?_))); (case side4 => exact (Kd.R_reads' HO315.out).2.1); (case side5 => exact far_slice (IsS170.own_ne HI0.out HO315.out zq55)); rintro e w12 ⟨rfl, hi, hb, hk⟩; refine ⟨_, rfl, ?_⟩; replace BK309 := zA (KeepBut.blk hk (g' := gb309) (o := .cells #[.int .i64 0, .int .i64 0, .int .i64 0, .int .i64 0, .int .i64 0] 39 (0, 0)) zq83 NB309_0.out zq48); replace HO315 := zA (Kd.R_mono (Kd.R_keep (IsS170.apart (show IsS170 w0 _ g s0_0 t311 t312 from by repeat (first | (with_reducible first | exact HI0.out | apply IsS170.alloc | apply IsS170.drewN | apply IsS170.drew | apply IsS170.set_1 | apply IsS170.set_2 | refine IsS170.far ?_ NB0_309.out _) | exact HI0.out)) zq105 zq55) hk (fun _ h => h.2)) (fun _ h => h.1)); replace HK := zA (KeepBut.trans zq36 hk (.inl rfl)); replace HB := zA (hb); replace HI0 := zA (hi); clear hb hk hi) | ((with_reducible refine gate_dst (N := 10) rfl ?_); refine Kd.R_lit (Kd.int .i64) _ 3 ?hg (N := 10) ?hd (xs := ([0, 1, 2, 9, 10] : List Int)) (inner := [.int .i64 0, .int .i64 1, .int .i64 2, .int .i64 9, .int .i64 10]) (ok := fun _ => True) (okp := fun _ => True) ?hr ?hp (fun _ hk => hk) trivial (Below.refl _ _) (Nat.le_refl _) zq48 ?_; (case hd => rfl); (case hg => rfl); (case hr => first | (go_simp; done) | (go_simp; rfl)); (case hp => exact (Reps.one (show Kd.M (Kd.int .i64) _ _ _ 0 [.int .i64 0] from rfl) (Reps.one (show Kd.M (Kd.int .i64) _ _ _ 1 [.int .i64 1] from rfl) (Reps.one (show Kd.M (Kd.int .i64) _ _ _ 2 [.int .i64 2] from rfl) (Reps.one (show Kd.M (Kd.int .i64) _ _ _ 9 [.int .i64 9] from rfl) (Reps.one (show Kd.M (Kd.int .i64) _ _ _ 10 [.int .i64 10] from rfl) (Reps.none _ _))))))); intro v320 w13 ho14 hb hg_ hnew_; clear hg_ hnew_; (first | rw [← Ny319.out] at ho14 | (simp only [Int.reduceToNat] at ho14; rw [← Ny319.out] at ho14)); have HO321 := zA (Kd.R_lower (Kd.R_new' ho14 (Kd.R_lt zq105)) (keep_size (w := w) (g := g) (row := none) zq36)); replace HO315 := zA (Kd.R_elder' zq105 (Kd.R_base ho14) hb); replace BK309 := zA (blk_below (g := gb309) (o := .cells #[.int .i64 0, .int .i64 0, .int .i64 0, .int .i64 0, .int .i64 0] 39 (0, 0)) zq83 hb); replace HK := zA (KeepBut.trans zq36 (KeepBut.of_below hb g none) (.inl rfl)); replace HB := zA (below_step zq133 hb); replace HI0 := zA (IsS170.below zq129 hb); clear hb ho14; obtain ⟨Ao15, co15, eo15⟩ := Kd.R_slice HO321.out; subst eo15) | ((with_reducible refine gate_callee (f := 140) rfl ?_); refine goesL_ (some 11) rfl rfl Try.func140 (by kernel_rfl) rfl #[.pointer (some ⟨g, 0, none⟩), .slice Ao15 y319.length co15] rfl zq1 ?_; (with_reducible refine (spec_l1Int.calls g s0_0 t317 t318 _ _ y319 t322 t323 t324 w0 _ ?side1 ?side2 ?side3 ?side4 ?side5 A4.out).mono ?_); (case side1 => repeat (first | (with_reducible first | exact HI0.out | apply IsS170.alloc | apply IsS170.drewN | apply IsS170.drew | apply IsS170.set_1 | apply IsS170.set_2 | refine IsS170.far ?_ NB0_309.out _) | exact HI0.out)); (case side2 => repeat (first | (with_reducible first | exact HB.out | apply below_alloc | apply pw_below_drewN | apply below_drew1 | refine below_set ?_ (IsS170.ge HI0.out) | refine below_set ?_ GE309.out) | exact HB.out)); (case side3 => repeat (first | exact (Kd.R_reads' HO321.out).2.2 | (with_reducible refine Kd.C_alloc ?_ _) | (with_reducible refine Kd.C_drewN ?_ _) | (with_reducible refine Kd.C_drew ?_))); (case side4 => exact (Kd.R_reads' HO321.out).2.1); (case side5 => exact far_slice (IsS170.own_ne HI0.out HO321.out zq55)); rintro e w16 ⟨rfl, hi, hb, hk⟩; refine ⟨_, rfl, ?_⟩; replace BK309 := zA (KeepBut.blk hk (g' := gb309) (o := .cells #[.int .i64 0, .int .i64 0, .int .i64 0, .int .i64 0, .int .i64 0] 39 (0, 0)) zq83 NB309_0.out zq48); replace HO315 := zA (Kd.R_mono (Kd.R_keep (IsS170.apart (show IsS170 w0 _ g s0_0 t317 t318 from by repeat (first | (with_reducible first | exact HI0.out | apply IsS170.alloc | apply IsS170.drewN | apply IsS170.drew | apply IsS170.set_1 | apply IsS170.set_2 | refine IsS170.far ?_ NB0_309.out _) | exact HI0.out)) zq105 zq55) hk (fun _ h => h.2)) (fun _ h => h.1)); replace HO321 := zA (Kd.R_mono (Kd.R_keep (IsS170.apart (show IsS170 w0 _ g s0_0 t317 t318 from by repeat (first | (with_reducible first | exact HI0.out | apply IsS170.alloc | apply IsS170.drewN | apply IsS170.drew | apply IsS170.set_1 | apply IsS170.set_2 | refine IsS170.far ?_ NB0_309.out _) | exact HI0.out)) zq130 zq55) hk (fun _ h => h.2)) (fun _ h => h.1)); replace HK := zA (KeepBut.trans zq36 hk (.inl rfl)); replace HB := zA (hb); replace HI0 := zA (hi); clear hb hk hi) | ((with_reducible refine gate_callee (f := 131) rfl ?_); refine goesL_ (some 13) rfl rfl Try.func131 (by kernel_rfl) rfl #[.pointer (some ⟨g, 0, none⟩), .int .i64 5] rfl zq1 ?_; (with_reducible refine (spec_l1Below.calls g s0_0 t323 t324 5 t325 t326 t327 w0 _ ?side1 ?side2 A5.out).mono ?_); (case side1 => repeat (first | (with_reducible first | exact HI0.out | apply IsS170.alloc | apply IsS170.drewN | apply IsS170.drew | apply IsS170.set_1 | apply IsS170.set_2 | refine IsS170.far ?_ NB0_309.out _) | exact HI0.out)); (case side2 => repeat (first | (with_reducible first | exact HB.out | apply below_alloc | apply pw_below_drewN | apply below_drew1 | refine below_set ?_ (IsS170.ge HI0.out) | refine below_set ?_ GE309.out) | exact HB.out)); rintro e w17 ⟨rfl, hi, hb, hk⟩; refine ⟨_, rfl, ?_⟩; replace BK309 := zA (KeepBut.blk hk (g' := gb309) (o := .cells #[.int .i64 0, .int .i64 0, .int .i64 0, .int .i64 0, .int .i64 0] 39 (0, 0)) zq83 NB309_0.out zq48); replace HO315 := zA (Kd.R_mono (Kd.R_keep (IsS170.apart (show IsS170 w0 _ g s0_0 t323 t324 from by repeat (first | (with_reducible first | exact HI0.out | apply IsS170.alloc | apply IsS170.drewN | apply IsS170.drew | apply IsS170.set_1 | apply IsS170.set_2 | refine IsS170.far ?_ NB0_309.out _) | exact HI0.out)) zq105 zq55) hk (fun _ h => h.2)) (fun _ h => h.1)); replace HO321 := zA (Kd.R_mono (Kd.R_keep (IsS170.apart (show IsS170 w0 _ g s0_0 t323 t324 from by repeat (first | (with_reducible first | exact HI0.out | apply IsS170.alloc | apply IsS170.drewN | apply IsS170.drew | apply IsS170.set_1 | apply IsS170.set_2 | refine IsS170.far ?_ NB0_309.out _) | exact HI0.out)) zq130 zq55) hk (fun _ h => h.2)) (fun _ h => h.1)); replace HK := zA (KeepBut.trans zq36 hk (.inl rfl)); replace HB := zA (hb); replace HI0 := zA (hi); clear hb hk hi) | ((with_reducible refine gate_callee (f := 131) rfl ?_); refine goesL_ (some 16) rfl rfl Try.func131 (by kernel_rfl) rfl #[.pointer (some ⟨g, 0, none⟩), .int .i64 4] rfl zq1 ?_; (with_reducible refine (spec_l1Below.calls g s0_0 t326 t327 4 t328 t329 t330 w0 _ ?side1 ?side2 A6.out).mono ?_); (case side1 => repeat (first | (with_reducible first | exact HI0.out | apply IsS170.alloc | apply IsS170.drewN | apply IsS170.drew | apply IsS170.set_1 | apply IsS170.set_2 | refine IsS170.far ?_ NB0_309.out _) | exact HI0.out)); (case side2 => repeat (first | (with_reducible first | exact HB.out | apply below_alloc | apply pw_below_drewN | apply below_drew1 | refine below_set ?_ (IsS170.ge HI0.out) | refine below_set ?_ GE309.out) | exact HB.out)); rintro e w18 ⟨rfl, hi, hb, hk⟩; refine ⟨_, rfl, ?_⟩; replace BK309 := zA (KeepBut.blk hk (g' := gb309) (o := .cells #[.int .i64 0, .int .i64 0, .int .i64 0, .int .i64 0, .int .i64 0] 39 (0, 0)) zq83 NB309_0.out zq48); replace HO315 := zA (Kd.R_mono (Kd.R_keep (IsS170.apart (show IsS170 w0 _ g s0_0 t326 t327 from by repeat (first | (with_reducible first | exact HI0.out | apply IsS170.alloc | apply IsS170.drewN | apply IsS170.drew | apply IsS170.set_1 | apply IsS170.set_2 | refine IsS170.far ?_ NB0_309.out _) | exact HI0.out)) zq105 zq55) hk (fun _ h => h.2)) (fun _ h => h.1)); replace HO321 := zA (Kd.R_mono (Kd.R_keep (IsS170.apart (show IsS170 w0 _ g s0_0 t326 t327 from by repeat (first | (with_reducible first | exact HI0.out | apply IsS170.alloc | apply IsS170.drewN | apply IsS170.drew | apply IsS170.set_1 | apply IsS170.set_2 | refine IsS170.far ?_ NB0_309.out _) | exact HI0.out)) zq130 zq55) hk (fun _ h => h.2)) (fun _ h => h.1)); replace HK := zA (KeepBut.trans zq36 hk (.inl rfl)); replace HB := zA (hb); replace HI0 := zA (hi); clear hb hk hi; have hnb19 := NB309_0.out; have hnc19 := NB0_309.out; have hcz20_0 : w18.cell? ⟨gb309, 0, none⟩ = some (.int .i64 0) := (blk_cell BK309.out 0).trans rfl; have hcz20_1 : w18.cell? ⟨gb309, 1, none⟩ = some (.int .i64 0) := (blk_cell BK309.out 1).trans rfl; have hcz20_2 : w18.cell? ⟨gb309, 2, none⟩ = some (.int .i64 0) := (blk_cell BK309.out 2).trans rfl; have hcz20_3 : w18.cell? ⟨gb309, 3, none⟩ = some (.int .i64 0) := (blk_cell BK309.out 3).trans rfl; have hcz20_4 : w18.cell? ⟨gb309, 4, none⟩ = some (.int .i64 0) := (blk_cell BK309.out 4).trans rfl; have hfz20_0 := blk_frozen BK309.out 0; have hfz20_1 := blk_frozen BK309.out 1; have hfz20_2 := blk_frozen BK309.out 2; have hfz20_3 := blk_frozen BK309.out 3; have hfz20_4 := blk_frozen BK309.out 4))
 refine bodyPost_ret (results_cell_row rfl _ _ gb309 39 #[.int .i64 (wrap64 (1 + t310)), .int .i64 t316, .int .i64 t322, .int .i64 (wrap64 (1 + t325)), .int .i64 t328] (0, 0) _ rfl (by (with_reducible repeat (first | refine blk_drewN ?_ _ | refine blk_drew ?_ | refine blk_alloc ?_ _)); refine blk_put (cs := #[.int .i64 (wrap64 (1 + t310)), .int .i64 t316, .int .i64 t322, .int .i64 (wrap64 (1 + t325)), .int .i64 0]) ?_ 4 _ rfl; (with_reducible repeat (first | refine blk_drewN ?_ _ | refine blk_drew ?_ | refine blk_alloc ?_ _)); refine blk_put (cs := #[.int .i64 (wrap64 (1 + t310)), .int .i64 t316, .int .i64 t322, .int .i64 0, .int .i64 0]) ?_ 3 _ rfl; (with_reducible repeat (first | refine blk_drewN ?_ _ | refine blk_drew ?_ | refine blk_alloc ?_ _)); refine blk_put (cs := #[.int .i64 (wrap64 (1 + t310)), .int .i64 t316, .int .i64 0, .int .i64 0, .int .i64 0]) ?_ 2 _ rfl; (with_reducible repeat (first | refine blk_drewN ?_ _ | refine blk_drew ?_ | refine blk_alloc ?_ _)); refine blk_put (cs := #[.int .i64 (wrap64 (1 + t310)), .int .i64 0, .int .i64 0, .int .i64 0, .int .i64 0]) ?_ 1 _ rfl; (with_reducible repeat (first | refine blk_drewN ?_ _ | refine blk_drew ?_ | refine blk_alloc ?_ _)); refine blk_put (cs := #[.int .i64 0, .int .i64 0, .int .i64 0, .int .i64 0, .int .i64 0]) ?_ 0 _ rfl; (with_reducible repeat (first | refine blk_drewN ?_ _ | refine blk_drew ?_ | refine blk_alloc ?_ _)); exact BK309.out) Try.underlying39 rfl (by kernel_rfl)) rfl ?_
 exact ⟨by first | rfl | (simp [errW_none, errW_some] <;> rfl) | (simp [*, errW_none, errW_some] <;> rfl), by repeat (first | (with_reducible first | exact HI0.out | apply IsS170.alloc | apply IsS170.drewN | apply IsS170.drew | apply IsS170.set_1 | apply IsS170.set_2 | refine IsS170.far ?_ NB0_309.out _) | exact HI0.out), by repeat (first | (with_reducible first | exact HB.out | apply below_alloc | apply pw_below_drewN | apply below_drew1 | refine below_set ?_ (IsS170.ge HI0.out) | refine below_set ?_ GE309.out) | exact HB.out), by repeat (first | (with_reducible first | exact HK.out | apply KeepBut.set_ | apply keep_drewN | apply keep_drew | apply keep_alloc | refine keep_far ?_ GW309.out _) | exact HK.out)⟩

/-! ### spec_l7Any: function 147 -/
def spec_l7Any.f (s0_0 : List Int) (s0_1 : Int) (s0_2 : Int) : Option (Int × Int × Int × Int × Int × Int × Int) := (spec_l7Draw.f s0_0 s0_1 s0_2).bind fun bt332 => ((spec_l1Below.f s0_0 bt332.2.2.2.2.2.1 bt332.2.2.2.2.2.2 12).bind fun bt340 => (if bt340.1 = 0 then ((spec_l1Int.f s0_0 bt340.2.1 bt340.2.2 (([0, 99, 100] : List Int))).bind fun bt346 => (some (bt346.1, bt332.2.1, bt332.2.2.1, bt332.2.2.2.1, bt332.2.2.2.2.1, bt346.2.1, bt346.2.2))) else (if bt340.1 = 1 then ((spec_l1Int.f s0_0 bt340.2.1 bt340.2.2 (([(-1), 99999, 100000, 100001] : List Int))).bind fun bt352 => (some (bt332.1, bt352.1, bt332.2.2.1, bt332.2.2.2.1, bt332.2.2.2.2.1, bt352.2.1, bt352.2.2))) else (if bt340.1 = 2 then ((spec_l1Int.f s0_0 bt340.2.1 bt340.2.2 (([(-1), 11] : List Int))).bind fun bt358 => (some (bt332.1, bt332.2.1, bt358.1, bt332.2.2.2.1, bt332.2.2.2.2.1, bt358.2.1, bt358.2.2))) else (if bt340.1 = 3 then ((spec_l1Int.f s0_0 bt340.2.1 bt340.2.2 (([(-1), 7, 8] : List Int))).bind fun bt364 => (some (bt332.1, bt332.2.1, bt332.2.2.1, bt332.2.2.2.1, bt364.1, bt364.2.1, bt364.2.2))) else (some (bt332.1, bt332.2.1, bt332.2.2.1, bt332.2.2.2.1, bt332.2.2.2.2.1, bt340.2.1, bt340.2.2)))))))
set_option maxHeartbeats 8000000 in
set_option maxRecDepth 100000 in
theorem spec_l7Any.calls (g : Nat) (s0_0 : List Int) (s0_1 : Int) (s0_2 : Int) (r1 : Int) (r2 : Int) (r3 : Int) (r4 : Int) (r5 : Int) (r6 : Int) (r7 : Int) (w0 w : World) (hI : IsS170 w0 w g s0_0 s0_1 s0_2) (hB : Below w0.heap.size w0 w) (h : spec_l7Any.f s0_0 s0_1 s0_2 = some (r1, r2, r3, r4, r5, r6, r7)) :
  Calls Try.prog 147 #[.pointer (some ⟨g, 0, none⟩)] w fun e w' => e = .returned (.agg #[.int .i64 r1, .int .i64 r2, .int .i64 r3, .int .i64 r4, .int .i64 r5]) ∧ IsS170 w0 w' g s0_0 r6 r7 ∧ Below w0.heap.size w0 w' ∧ KeepBut w w' g none := by
 have hu39 := Try.underlying39
 have HI0 := zA hI
 have HK := zA (KeepBut.refl w g none)
 have HL := zA hB.size
 clear hI
 have HW0 := zA hB.size
 have HB := zA hB
 clear hB
 have H : ((spec_l7Draw.f s0_0 s0_1 s0_2).bind fun bt332 => ((spec_l1Below.f s0_0 bt332.2.2.2.2.2.1 bt332.2.2.2.2.2.2 12).bind fun bt340 => (if bt340.1 = 0 then ((spec_l1Int.f s0_0 bt340.2.1 bt340.2.2 (([0, 99, 100] : List Int))).bind fun bt346 => (some (bt346.1, bt332.2.1, bt332.2.2.1, bt332.2.2.2.1, bt332.2.2.2.2.1, bt346.2.1, bt346.2.2))) else (if bt340.1 = 1 then ((spec_l1Int.f s0_0 bt340.2.1 bt340.2.2 (([(-1), 99999, 100000, 100001] : List Int))).bind fun bt352 => (some (bt332.1, bt352.1, bt332.2.2.1, bt332.2.2.2.1, bt332.2.2.2.2.1, bt352.2.1, bt352.2.2))) else (if bt340.1 = 2 then ((spec_l1Int.f s0_0 bt340.2.1 bt340.2.2 (([(-1), 11] : List Int))).bind fun bt358 => (some (bt332.1, bt332.2.1, bt358.1, bt332.2.2.2.1, bt332.2.2.2.2.1, bt358.2.1, bt358.2.2))) else (if bt340.1 = 3 then ((spec_l1Int.f s0_0 bt340.2.1 bt340.2.2 (([(-1), 7, 8] : List Int))).bind fun bt364 => (some (bt332.1, bt332.2.1, bt332.2.2.1, bt332.2.2.2.1, bt364.1, bt364.2.1, bt364.2.2))) else (some (bt332.1, bt332.2.1, bt332.2.2.1, bt332.2.2.2.1, bt332.2.2.2.2.1, bt340.2.1, bt340.2.2)))))))) = some (r1, r2, r3, r4, r5, r6, r7) := h
 clear h
 obtain ⟨⟨t332, t333, t334, t335, t336, t337, t338⟩, A2, H⟩ := zB H
 try dsimp only at H
 obtain ⟨⟨t340, t341, t342⟩, A3, H⟩ := zB H
 try dsimp only at H
 by_cases c4 : t340 = 0
 ·rw [if_pos c4] at H
  have c4b0 : (t340 == 0) = true := beq_iff_eq.mpr c4
  have c4b1 : (t340 != 0) = false := bne_eq_false_iff_eq.mpr c4
  clear c4
  obtain ⟨y343, hy343⟩ : ∃ y_ : List Int, y_ = (([0, 99, 100] : List Int)) := ⟨_, rfl⟩
  replace H : ((spec_l1Int.f s0_0 t341 t342 y343).bind fun bt346 => (some (bt346.1, t333, t334, t335, t336, bt346.2.1, bt346.2.2))) = some (r1, r2, r3, r4, r5, r6, r7) := by first | (rw [hy343]; with_reducible exact H) | (have H2_ := (Option.bind_some _ _).symm.trans H; rw [hy343]; with_reducible exact H2_) | (have H2_ := (Option.bind_some _ _).symm.trans H; with_reducible exact H2_) | with_reducible exact H | (rw [hy343]; exact H) | exact H
  have Ny343 := zA hy343
  clear hy343
  obtain ⟨⟨t346, t347, t348⟩, A5, H⟩ := zB H
  try dsimp only at H
  simp only [Option.some.injEq, Prod.mk.injEq] at H
  obtain ⟨rfl, rfl, rfl, rfl, rfl, rfl, rfl⟩ := H
  go_enter Try.func147, Try.ntmps147
  go_wp2_with (first | ((with_reducible refine gate_dst (N := 2) rfl ?_); refine box_event ?hg (N := 2) ?hd (cs := #[.int .i64 0, .int .i64 0, .int .i64 0, .int .i64 0, .int .i64 0]) (t := 39) ?hr ?_; (case hd => rfl); (case hg => rfl); (case hr => first | (go_simp; done) | (go_simp; rfl)); intro gb331 hg w6 hbox hb; replace HB := zA (below_step zq31 hb); have BK331 := zA (hbox); have GW331 := zA ((zq21 : w.heap.size ≤ gb331)); have GE331 := zA ((Nat.le_trans HW0.out (zq21 : w.heap.size ≤ gb331) : w0.heap.size ≤ gb331)); replace HK := zA (KeepBut.trans zq2 (KeepBut.of_below hb g none) (.inl rfl)); have NB0_331 := zA ((zq40 : g ≠ gb331)); have NB331_0 := zA ((zq41 : gb331 ≠ g)); replace HI0 := zA (IsS170.below zq37 hb); clear hb hbox hg) | ((with_reducible refine gate_callee (f := 149) rfl ?_); refine goesL_ (some 5) rfl rfl Try.func149 (by kernel_rfl) rfl #[.pointer (some ⟨g, 0, none⟩)] rfl zq1 ?_; (with_reducible refine (spec_l7Draw.calls g s0_0 s0_1 s0_2 t332 t333 t334 t335 t336 t337 t338 w0 _ ?side1 ?side2 A2.out).mono ?_); (case side1 => repeat (first | (with_reducible first | exact HI0.out | apply IsS170.alloc | apply IsS170.drewN | apply IsS170.drew | apply IsS170.set_1 | apply IsS170.set_2 | refine IsS170.far ?_ NB0_331.out _) | exact HI0.out)); (case side2 => repeat (first | (with_reducible first | exact HB.out | apply below_alloc | apply pw_below_drewN | apply below_drew1 | refine below_set ?_ (IsS170.ge HI0.out) | refine below_set ?_ GE331.out) | exact HB.out)); rintro e w7 ⟨rfl, hi, hb, hk⟩; refine ⟨_, rfl, ?_⟩; replace BK331 := zA (KeepBut.blk hk (g' := gb331) (o := .cells #[.int .i64 0, .int .i64 0, .int .i64 0, .int .i64 0, .int .i64 0] 39 (0, 0)) zq14 NB331_0.out zq48); replace HK := zA (KeepBut.trans zq10 hk (.inl rfl)); replace HB := zA (hb); replace HI0 := zA (hi); clear hb hk hi) | ((with_reducible refine gate_dst (N := 3) rfl ?_); refine box_event ?hg (N := 3) ?hd (cs := #[.int .i64 0, .int .i64 0, .int .i64 0, .int .i64 0, .int .i64 0]) (t := 39) ?hr ?_; (case hd => rfl); (case hg => rfl); (case hr => first | (go_simp; done) | (go_simp; rfl)); intro gb339 hg w8 hbox hb; replace HB := zA (below_step zq71 hb); have BK339 := zA (hbox); have GW339 := zA ((zq23 : w.heap.size ≤ gb339)); have GE339 := zA ((Nat.le_trans HW0.out (zq23 : w.heap.size ≤ gb339) : w0.heap.size ≤ gb339)); replace HK := zA (KeepBut.trans zq10 (KeepBut.of_below hb g none) (.inl rfl)); have NB331_339 := zA ((zq56 : gb331 ≠ gb339)); have NB339_331 := zA ((zq57 : gb339 ≠ gb331)); replace BK331 := zA (blk_below (g := gb331) (o := .cells #[.int .i64 0, .int .i64 0, .int .i64 0, .int .i64 0, .int .i64 0] 39 (0, 0)) zq14 hb); have NB0_339 := zA ((zq45 : g ≠ gb339)); have NB339_0 := zA ((zq46 : gb339 ≠ g)); replace HI0 := zA (IsS170.below zq68 hb); clear hb hbox hg; have hnb9 := NB339_331.out; have hnc9 := NB331_339.out; have hnb10 := NB339_0.out; have hnc10 := NB0_339.out; have hcz11_0 : w8.cell? ⟨gb339, 0, none⟩ = some (.int .i64 0) := (blk_cell BK339.out 0).trans rfl; have hcz11_1 : w8.cell? ⟨gb339, 1, none⟩ = some (.int .i64 0) := (blk_cell BK339.out 1).trans rfl; have hcz11_2 : w8.cell? ⟨gb339, 2, none⟩ = some (.int .i64 0) := (blk_cell BK339.out 2).trans rfl; have hcz11_3 : w8.cell? ⟨gb339, 3, none⟩ = some (.int .i64 0) := (blk_cell BK339.out 3).trans rfl; have hcz11_4 : w8.cell? ⟨gb339, 4, none⟩ = some (.int .i64 0) := (blk_cell BK339.out 4).trans rfl; have hfz11_0 := blk_frozen BK339.out 0; have hfz11_1 := blk_frozen BK339.out 1; have hfz11_2 := blk_frozen BK339.out 2; have hfz11_3 := blk_frozen BK339.out 3; have hfz11_4 := blk_frozen BK339.out 4) | ((with_reducible refine gate_callee (f := 131) rfl ?_); refine goesL_ (some 7) rfl rfl Try.func131 (by kernel_rfl) rfl #[.pointer (some ⟨g, 0, none⟩), .int .i64 12] rfl zq1 ?_; (with_reducible refine (spec_l1Below.calls g s0_0 t337 t338 12 t340 t341 t342 w0 _ ?side1 ?side2 A3.out).mono ?_); (case side1 => repeat (first | (with_reducible first | exact HI0.out | apply IsS170.alloc | apply IsS170.drewN | apply IsS170.drew | apply IsS170.set_1 | apply IsS170.set_2 | refine IsS170.far ?_ NB0_331.out _ | refine IsS170.far ?_ NB0_339.out _) | exact HI0.out)); (case side2 => repeat (first | (with_reducible first | exact HB.out | apply below_alloc | apply pw_below_drewN | apply below_drew1 | refine below_set ?_ (IsS170.ge HI0.out) | refine below_set ?_ GE331.out | refine below_set ?_ GE339.out) | exact HB.out)); rintro e w12 ⟨rfl, hi, hb, hk⟩; refine ⟨_, rfl, ?_⟩; replace BK331 := zA (KeepBut.blk hk (g' := gb331) (o := .cells #[.int .i64 0, .int .i64 0, .int .i64 0, .int .i64 0, .int .i64 0] 39 (0, 0)) zq13 NB331_0.out zq48); replace BK339 := zA (KeepBut.blk hk (g' := gb339) (o := .cells #[.int .i64 t332, .int .i64 t333, .int .i64 t334, .int .i64 t335, .int .i64 t336] 39 (0, 0)) zq7 NB339_0.out zq48); replace HK := zA (KeepBut.trans zq12 hk (.inl rfl)); replace HB := zA (hb); replace HI0 := zA (hi); clear hb hk hi) | ((with_reducible refine gate_dst (N := 11) rfl ?_); refine Kd.R_lit (Kd.int .i64) _ 3 ?hg (N := 11) ?hd (xs := ([0, 99, 100] : List Int)) (inner := [.int .i64 0, .int .i64 99, .int .i64 100]) (ok := fun _ => True) (okp := fun _ => True) ?hr ?hp (fun _ hk => hk) trivial (Below.refl _ _) (Nat.le_refl _) zq48 ?_; (case hd => rfl); (case hg => rfl); (case hr => first | (go_simp; done) | (go_simp; rfl)); (case hp => exact (Reps.one (show Kd.M (Kd.int .i64) _ _ _ 0 [.int .i64 0] from rfl) (Reps.one (show Kd.M (Kd.int .i64) _ _ _ 99 [.int .i64 99] from rfl) (Reps.one (show Kd.M (Kd.int .i64) _ _ _ 100 [.int .i64 100] from rfl) (Reps.none _ _))))); intro v344 w13 ho14 hb hg_ hnew_; clear hg_ hnew_; (first | rw [← Ny343.out] at ho14 | (simp only [Int.reduceToNat] at ho14; rw [← Ny343.out] at ho14)); have HO345 := zA (Kd.R_lower ho14 (keep_size (w := w) (g := g) (row := none) zq12)); replace BK331 := zA (blk_below (g := gb331) (o := .cells #[.int .i64 0, .int .i64 0, .int .i64 0, .int .i64 0, .int .i64 0] 39 (0, 0)) zq14 hb); replace BK339 := zA (blk_below (g := gb339) (o := .cells #[.int .i64 t332, .int .i64 t333, .int .i64 t334, .int .i64 t335, .int .i64 t336] 39 (0, 0)) zq72 hb); replace HK := zA (KeepBut.trans zq12 (KeepBut.of_below hb g none) (.inl rfl)); replace HB := zA (below_step zq82 hb); replace HI0 := zA (IsS170.below zq80 hb); clear hb ho14; obtain ⟨Ao15, co15, eo15⟩ := Kd.R_slice HO345.out; subst eo15) | ((with_reducible refine gate_callee (f := 140) rfl ?_); refine goesL_ (some 12) rfl rfl Try.func140 (by kernel_rfl) rfl #[.pointer (some ⟨g, 0, none⟩), .slice Ao15 y343.length co15] rfl zq1 ?_; (with_reducible refine (spec_l1Int.calls g s0_0 t341 t342 _ _ y343 t346 t347 t348 w0 _ ?side1 ?side2 ?side3 ?side4 ?side5 A5.out).mono ?_); (case side1 => repeat (first | (with_reducible first | exact HI0.out | apply IsS170.alloc | apply IsS170.drewN | apply IsS170.drew | apply IsS170.set_1 | apply IsS170.set_2 | refine IsS170.far ?_ NB0_331.out _ | refine IsS170.far ?_ NB0_339.out _) | exact HI0.out)); (case side2 => repeat (first | (with_reducible first | exact HB.out | apply below_alloc | apply pw_below_drewN | apply below_drew1 | refine below_set ?_ (IsS170.ge HI0.out) | refine below_set ?_ GE331.out | refine below_set ?_ GE339.out) | exact HB.out)); (case side3 => repeat (first | exact (Kd.R_reads' HO345.out).2.2 | (with_reducible refine Kd.C_alloc ?_ _) | (with_reducible refine Kd.C_drewN ?_ _) | (with_reducible refine Kd.C_drew ?_))); (case side4 => exact (Kd.R_reads' HO345.out).2.1); (case side5 => exact far_slice (IsS170.own_ne HI0.out HO345.out zq55)); rintro e w16 ⟨rfl, hi, hb, hk⟩; refine ⟨_, rfl, ?_⟩; replace BK331 := zA (KeepBut.blk hk (g' := gb331) (o := .cells #[.int .i64 0, .int .i64 0, .int .i64 0, .int .i64 0, .int .i64 0] 39 (0, 0)) zq14 NB331_0.out zq48); replace BK339 := zA (KeepBut.blk hk (g' := gb339) (o := .cells #[.int .i64 t332, .int .i64 t333, .int .i64 t334, .int .i64 t335, .int .i64 t336] 39 (0, 0)) zq72 NB339_0.out zq48); replace HO345 := zA (Kd.R_mono (Kd.R_keep (IsS170.apart (show IsS170 w0 _ g s0_0 t341 t342 from by repeat (first | (with_reducible first | exact HI0.out | apply IsS170.alloc | apply IsS170.drewN | apply IsS170.drew | apply IsS170.set_1 | apply IsS170.set_2 | refine IsS170.far ?_ NB0_331.out _ | refine IsS170.far ?_ NB0_339.out _) | exact HI0.out)) (by (with_reducible repeat (first | apply Kd.R_alloc | apply Kd.R_drewN | apply Kd.R_drew)); exact HO345.out) zq55) hk (fun _ h => h.2)) (fun _ h => h.1)); replace HK := zA (KeepBut.trans zq12 hk (.inl rfl)); replace HB := zA (hb); replace HI0 := zA (hi); clear hb hk hi; have hcz17_0 : w16.cell? ⟨gb339, 0, none⟩ = some (.int .i64 t332) := (blk_cell BK339.out 0).trans rfl; have hcz17_1 : w16.cell? ⟨gb339, 1, none⟩ = some (.int .i64 t333) := (blk_cell BK339.out 1).trans rfl; have hcz17_2 : w16.cell? ⟨gb339, 2, none⟩ = some (.int .i64 t334) := (blk_cell BK339.out 2).trans rfl; have hcz17_3 : w16.cell? ⟨gb339, 3, none⟩ = some (.int .i64 t335) := (blk_cell BK339.out 3).trans rfl; have hcz17_4 : w16.cell? ⟨gb339, 4, none⟩ = some (.int .i64 t336) := (blk_cell BK339.out 4).trans rfl; have hfz17_0 := blk_frozen BK339.out 0; have hfz17_1 := blk_frozen BK339.out 1; have hfz17_2 := blk_frozen BK339.out 2; have hfz17_3 := blk_frozen BK339.out 3; have hfz17_4 := blk_frozen BK339.out 4; have hnb18 := NB331_0.out; have hnc18 := NB0_331.out; have hcz19_0 : w16.cell? ⟨gb331, 0, none⟩ = some (.int .i64 0) := (blk_cell BK331.out 0).trans rfl; have hcz19_1 : w16.cell? ⟨gb331, 1, none⟩ = some (.int .i64 0) := (blk_cell BK331.out 1).trans rfl; have hcz19_2 : w16.cell? ⟨gb331, 2, none⟩ = some (.int .i64 0) := (blk_cell BK331.out 2).trans rfl; have hcz19_3 : w16.cell? ⟨gb331, 3, none⟩ = some (.int .i64 0) := (blk_cell BK331.out 3).trans rfl; have hcz19_4 : w16.cell? ⟨gb331, 4, none⟩ = some (.int .i64 0) := (blk_cell BK331.out 4).trans rfl; have hfz19_0 := blk_frozen BK331.out 0; have hfz19_1 := blk_frozen BK331.out 1; have hfz19_2 := blk_frozen BK331.out 2; have hfz19_3 := blk_frozen BK331.out 3; have hfz19_4 := blk_frozen BK331.out 4))
  refine bodyPost_ret (results_cell_row rfl _ _ gb331 39 #[.int .i64 t346, .int .i64 t333, .int .i64 t334, .int .i64 t335, .int .i64 t336] (0, 0) _ rfl (by (with_reducible repeat (first | refine blk_drewN ?_ _ | refine blk_drew ?_ | refine blk_alloc ?_ _)); refine blk_put (cs := #[.int .i64 t346, .int .i64 t333, .int .i64 t334, .int .i64 t335, .int .i64 0]) ?_ 4 _ rfl; (with_reducible repeat (first | refine blk_drewN ?_ _ | refine blk_drew ?_ | refine blk_alloc ?_ _)); refine blk_put (cs := #[.int .i64 t346, .int .i64 t333, .int .i64 t334, .int .i64 0, .int .i64 0]) ?_ 3 _ rfl; (with_reducible repeat (first | refine blk_drewN ?_ _ | refine blk_drew ?_ | refine blk_alloc ?_ _)); refine blk_put (cs := #[.int .i64 t346, .int .i64 t333, .int .i64 0, .int .i64 0, .int .i64 0]) ?_ 2 _ rfl; (with_reducible repeat (first | refine blk_drewN ?_ _ | refine blk_drew ?_ | refine blk_alloc ?_ _)); refine blk_put (cs := #[.int .i64 t346, .int .i64 0, .int .i64 0, .int .i64 0, .int .i64 0]) ?_ 1 _ rfl; (with_reducible repeat (first | refine blk_drewN ?_ _ | refine blk_drew ?_ | refine blk_alloc ?_ _)); refine blk_put (cs := #[.int .i64 0, .int .i64 0, .int .i64 0, .int .i64 0, .int .i64 0]) ?_ 0 _ rfl; (with_reducible repeat (first | refine blk_drewN ?_ _ | refine blk_drew ?_ | refine blk_alloc ?_ _)); refine blk_far ?_ NB331_339.out _; (with_reducible repeat (first | refine blk_drewN ?_ _ | refine blk_drew ?_ | refine blk_alloc ?_ _)); exact BK331.out) Try.underlying39 rfl (by kernel_rfl)) rfl ?_
  exact ⟨by first | rfl | (simp [errW_none, errW_some] <;> rfl) | (simp [*, errW_none, errW_some] <;> rfl), by repeat (first | (with_reducible first | exact HI0.out | apply IsS170.alloc | apply IsS170.drewN | apply IsS170.drew | apply IsS170.set_1 | apply IsS170.set_2 | refine IsS170.far ?_ NB0_331.out _ | refine IsS170.far ?_ NB0_339.out _) | exact HI0.out), by repeat (first | (with_reducible first | exact HB.out | apply below_alloc | apply pw_below_drewN | apply below_drew1 | refine below_set ?_ (IsS170.ge HI0.out) | refine below_set ?_ GE331.out | refine below_set ?_ GE339.out) | exact HB.out), by repeat (first | (with_reducible first | exact HK.out | apply KeepBut.set_ | apply keep_drewN | apply keep_drew | apply keep_alloc | refine keep_far ?_ GW331.out _ | refine keep_far ?_ GW339.out _) | exact HK.out)⟩
 ·rw [if_neg c4] at H
  have c4b0 : (t340 == 0) = false := beq_eq_false_iff_ne.mpr c4
  have c4b1 : (t340 != 0) = true := bne_iff_ne.mpr c4
  by_cases c20 : t340 = 1
  ·rw [if_pos c20] at H
   have c20b0 : (t340 == 1) = true := beq_iff_eq.mpr c20
   have c20b1 : (t340 != 1) = false := bne_eq_false_iff_eq.mpr c20
   clear c20
   obtain ⟨y349, hy349⟩ : ∃ y_ : List Int, y_ = (([(-1), 99999, 100000, 100001] : List Int)) := ⟨_, rfl⟩
   replace H : ((spec_l1Int.f s0_0 t341 t342 y349).bind fun bt352 => (some (t332, bt352.1, t334, t335, t336, bt352.2.1, bt352.2.2))) = some (r1, r2, r3, r4, r5, r6, r7) := by first | (rw [hy349]; with_reducible exact H) | (have H2_ := (Option.bind_some _ _).symm.trans H; rw [hy349]; with_reducible exact H2_) | (have H2_ := (Option.bind_some _ _).symm.trans H; with_reducible exact H2_) | with_reducible exact H | (rw [hy349]; exact H) | exact H
   have Ny349 := zA hy349
   clear hy349
   obtain ⟨⟨t352, t353, t354⟩, A21, H⟩ := zB H
   try dsimp only at H
   simp only [Option.some.injEq, Prod.mk.injEq] at H
   obtain ⟨rfl, rfl, rfl, rfl, rfl, rfl, rfl⟩ := H
   go_enter Try.func147, Try.ntmps147
   go_wp2_with (first | ((with_reducible refine gate_dst (N := 2) rfl ?_); refine box_event ?hg (N := 2) ?hd (cs := #[.int .i64 0, .int .i64 0, .int .i64 0, .int .i64 0, .int .i64 0]) (t := 39) ?hr ?_; (case hd => rfl); (case hg => rfl); (case hr => first | (go_simp; done) | (go_simp; rfl)); intro gb331 hg w22 hbox hb; replace HB := zA (below_step zq31 hb); have BK331 := zA (hbox); have GW331 := zA ((zq21 : w.heap.size ≤ gb331)); have GE331 := zA ((Nat.le_trans HW0.out (zq21 : w.heap.size ≤ gb331) : w0.heap.size ≤ gb331)); replace HK := zA (KeepBut.trans zq2 (KeepBut.of_below hb g none) (.inl rfl)); have NB0_331 := zA ((zq40 : g ≠ gb331)); have NB331_0 := zA ((zq41 : gb331 ≠ g)); replace HI0 := zA (IsS170.below zq37 hb); clear hb hbox hg) | ((with_reducible refine gate_callee (f := 149) rfl ?_); refine goesL_ (some 5) rfl rfl Try.func149 (by kernel_rfl) rfl #[.pointer (some ⟨g, 0, none⟩)] rfl zq1 ?_; (with_reducible refine (spec_l7Draw.calls g s0_0 s0_1 s0_2 t332 t333 t334 t335 t336 t337 t338 w0 _ ?side1 ?side2 A2.out).mono ?_); (case side1 => repeat (first | (with_reducible first | exact HI0.out | apply IsS170.alloc | apply IsS170.drewN | apply IsS170.drew | apply IsS170.set_1 | apply IsS170.set_2 | refine IsS170.far ?_ NB0_331.out _) | exact HI0.out)); (case side2 => repeat (first | (with_reducible first | exact HB.out | apply below_alloc | apply pw_below_drewN | apply below_drew1 | refine below_set ?_ (IsS170.ge HI0.out) | refine below_set ?_ GE331.out) | exact HB.out)); rintro e w23 ⟨rfl, hi, hb, hk⟩; refine ⟨_, rfl, ?_⟩; replace BK331 := zA (KeepBut.blk hk (g' := gb331) (o := .cells #[.int .i64 0, .int .i64 0, .int .i64 0, .int .i64 0, .int .i64 0] 39 (0, 0)) zq14 NB331_0.out zq48); replace HK := zA (KeepBut.trans zq10 hk (.inl rfl)); replace HB := zA (hb); replace HI0 := zA (hi); clear hb hk hi) | ((with_reducible refine gate_dst (N := 3) rfl ?_); refine box_event ?hg (N := 3) ?hd (cs := #[.int .i64 0, .int .i64 0, .int .i64 0, .int .i64 0, .int .i64 0]) (t := 39) ?hr ?_; (case hd => rfl); (case hg => rfl); (case hr => first | (go_simp; done) | (go_simp; rfl)); intro gb339 hg w24 hbox hb; replace HB := zA (below_step zq71 hb); have BK339 := zA (hbox); have GW339 := zA ((zq23 : w.heap.size ≤ gb339)); have GE339 := zA ((Nat.le_trans HW0.out (zq23 : w.heap.size ≤ gb339) : w0.heap.size ≤ gb339)); replace HK := zA (KeepBut.trans zq10 (KeepBut.of_below hb g none) (.inl rfl)); have NB331_339 := zA ((zq56 : gb331 ≠ gb339)); have NB339_331 := zA ((zq57 : gb339 ≠ gb331)); replace BK331 := zA (blk_below (g := gb331) (o := .cells #[.int .i64 0, .int .i64 0, .int .i64 0, .int .i64 0, .int .i64 0] 39 (0, 0)) zq14 hb); have NB0_339 := zA ((zq45 : g ≠ gb339)); have NB339_0 := zA ((zq46 : gb339 ≠ g)); replace HI0 := zA (IsS170.below zq68 hb); clear hb hbox hg; have hnb25 := NB339_331.out; have hnc25 := NB331_339.out; have hnb26 := NB339_0.out; have hnc26 := NB0_339.out; have hcz27_0 : w24.cell? ⟨gb339, 0, none⟩ = some (.int .i64 0) := (blk_cell BK339.out 0).trans rfl; have hcz27_1 : w24.cell? ⟨gb339, 1, none⟩ = some (.int .i64 0) := (blk_cell BK339.out 1).trans rfl; have hcz27_2 : w24.cell? ⟨gb339, 2, none⟩ = some (.int .i64 0) := (blk_cell BK339.out 2).trans rfl; have hcz27_3 : w24.cell? ⟨gb339, 3, none⟩ = some (.int .i64 0) := (blk_cell BK339.out 3).trans rfl; have hcz27_4 : w24.cell? ⟨gb339, 4, none⟩ = some (.int .i64 0) := (blk_cell BK339.out 4).trans rfl; have hfz27_0 := blk_frozen BK339.out 0; have hfz27_1 := blk_frozen BK339.out 1; have hfz27_2 := blk_frozen BK339.out 2; have hfz27_3 := blk_frozen BK339.out 3; have hfz27_4 := blk_frozen BK339.out 4) | ((with_reducible refine gate_callee (f := 131) rfl ?_); refine goesL_ (some 7) rfl rfl Try.func131 (by kernel_rfl) rfl #[.pointer (some ⟨g, 0, none⟩), .int .i64 12] rfl zq1 ?_; (with_reducible refine (spec_l1Below.calls g s0_0 t337 t338 12 t340 t341 t342 w0 _ ?side1 ?side2 A3.out).mono ?_); (case side1 => repeat (first | (with_reducible first | exact HI0.out | apply IsS170.alloc | apply IsS170.drewN | apply IsS170.drew | apply IsS170.set_1 | apply IsS170.set_2 | refine IsS170.far ?_ NB0_331.out _ | refine IsS170.far ?_ NB0_339.out _) | exact HI0.out)); (case side2 => repeat (first | (with_reducible first | exact HB.out | apply below_alloc | apply pw_below_drewN | apply below_drew1 | refine below_set ?_ (IsS170.ge HI0.out) | refine below_set ?_ GE331.out | refine below_set ?_ GE339.out) | exact HB.out)); rintro e w28 ⟨rfl, hi, hb, hk⟩; refine ⟨_, rfl, ?_⟩; replace BK331 := zA (KeepBut.blk hk (g' := gb331) (o := .cells #[.int .i64 0, .int .i64 0, .int .i64 0, .int .i64 0, .int .i64 0] 39 (0, 0)) zq13 NB331_0.out zq48); replace BK339 := zA (KeepBut.blk hk (g' := gb339) (o := .cells #[.int .i64 t332, .int .i64 t333, .int .i64 t334, .int .i64 t335, .int .i64 t336] 39 (0, 0)) zq7 NB339_0.out zq48); replace HK := zA (KeepBut.trans zq12 hk (.inl rfl)); replace HB := zA (hb); replace HI0 := zA (hi); clear hb hk hi) | ((with_reducible refine gate_dst (N := 17) rfl ?_); refine Kd.R_lit (Kd.int .i64) _ 3 ?hg (N := 17) ?hd (xs := ([(-1), 99999, 100000, 100001] : List Int)) (inner := [.int .i64 (-1), .int .i64 99999, .int .i64 100000, .int .i64 100001]) (ok := fun _ => True) (okp := fun _ => True) ?hr ?hp (fun _ hk => hk) trivial (Below.refl _ _) (Nat.le_refl _) zq48 ?_; (case hd => rfl); (case hg => rfl); (case hr => first | (go_simp; done) | (go_simp; rfl)); (case hp => exact (Reps.one (show Kd.M (Kd.int .i64) _ _ _ (-1) [.int .i64 (-1)] from rfl) (Reps.one (show Kd.M (Kd.int .i64) _ _ _ 99999 [.int .i64 99999] from rfl) (Reps.one (show Kd.M (Kd.int .i64) _ _ _ 100000 [.int .i64 100000] from rfl) (Reps.one (show Kd.M (Kd.int .i64) _ _ _ 100001 [.int .i64 100001] from rfl) (Reps.none _ _)))))); intro v350 w29 ho30 hb hg_ hnew_; clear hg_ hnew_; (first | rw [← Ny349.out] at ho30 | (simp only [Int.reduceToNat] at ho30; rw [← Ny349.out] at ho30)); have HO351 := zA (Kd.R_lower ho30 (keep_size (w := w) (g := g) (row := none) zq12)); replace BK331 := zA (blk_below (g := gb331) (o := .cells #[.int .i64 0, .int .i64 0, .int .i64 0, .int .i64 0, .int .i64 0] 39 (0, 0)) zq14 hb); replace BK339 := zA (blk_below (g := gb339) (o := .cells #[.int .i64 t332, .int .i64 t333, .int .i64 t334, .int .i64 t335, .int .i64 t336] 39 (0, 0)) zq72 hb); replace HK := zA (KeepBut.trans zq12 (KeepBut.of_below hb g none) (.inl rfl)); replace HB := zA (below_step zq82 hb); replace HI0 := zA (IsS170.below zq80 hb); clear hb ho30; obtain ⟨Ao31, co31, eo31⟩ := Kd.R_slice HO351.out; subst eo31) | ((with_reducible refine gate_callee (f := 140) rfl ?_); refine goesL_ (some 18) rfl rfl Try.func140 (by kernel_rfl) rfl #[.pointer (some ⟨g, 0, none⟩), .slice Ao31 y349.length co31] rfl zq1 ?_; (with_reducible refine (spec_l1Int.calls g s0_0 t341 t342 _ _ y349 t352 t353 t354 w0 _ ?side1 ?side2 ?side3 ?side4 ?side5 A21.out).mono ?_); (case side1 => repeat (first | (with_reducible first | exact HI0.out | apply IsS170.alloc | apply IsS170.drewN | apply IsS170.drew | apply IsS170.set_1 | apply IsS170.set_2 | refine IsS170.far ?_ NB0_331.out _ | refine IsS170.far ?_ NB0_339.out _) | exact HI0.out)); (case side2 => repeat (first | (with_reducible first | exact HB.out | apply below_alloc | apply pw_below_drewN | apply below_drew1 | refine below_set ?_ (IsS170.ge HI0.out) | refine below_set ?_ GE331.out | refine below_set ?_ GE339.out) | exact HB.out)); (case side3 => repeat (first | exact (Kd.R_reads' HO351.out).2.2 | (with_reducible refine Kd.C_alloc ?_ _) | (with_reducible refine Kd.C_drewN ?_ _) | (with_reducible refine Kd.C_drew ?_))); (case side4 => exact (Kd.R_reads' HO351.out).2.1); (case side5 => exact far_slice (IsS170.own_ne HI0.out HO351.out zq55)); rintro e w32 ⟨rfl, hi, hb, hk⟩; refine ⟨_, rfl, ?_⟩; replace BK331 := zA (KeepBut.blk hk (g' := gb331) (o := .cells #[.int .i64 0, .int .i64 0, .int .i64 0, .int .i64 0, .int .i64 0] 39 (0, 0)) zq14 NB331_0.out zq48); replace BK339 := zA (KeepBut.blk hk (g' := gb339) (o := .cells #[.int .i64 t332, .int .i64 t333, .int .i64 t334, .int .i64 t335, .int .i64 t336] 39 (0, 0)) zq72 NB339_0.out zq48); replace HO351 := zA (Kd.R_mono (Kd.R_keep (IsS170.apart (show IsS170 w0 _ g s0_0 t341 t342 from by repeat (first | (with_reducible first | exact HI0.out | apply IsS170.alloc | apply IsS170.drewN | apply IsS170.drew | apply IsS170.set_1 | apply IsS170.set_2 | refine IsS170.far ?_ NB0_331.out _ | refine IsS170.far ?_ NB0_339.out _) | exact HI0.out)) (by (with_reducible repeat (first | apply Kd.R_alloc | apply Kd.R_drewN | apply Kd.R_drew)); exact HO351.out) zq55) hk (fun _ h => h.2)) (fun _ h => h.1)); replace HK := zA (KeepBut.trans zq12 hk (.inl rfl)); replace HB := zA (hb); replace HI0 := zA (hi); clear hb hk hi; have hcz33_0 : w32.cell? ⟨gb339, 0, none⟩ = some (.int .i64 t332) := (blk_cell BK339.out 0).trans rfl; have hcz33_1 : w32.cell? ⟨gb339, 1, none⟩ = some (.int .i64 t333) := (blk_cell BK339.out 1).trans rfl; have hcz33_2 : w32.cell? ⟨gb339, 2, none⟩ = some (.int .i64 t334) := (blk_cell BK339.out 2).trans rfl; have hcz33_3 : w32.cell? ⟨gb339, 3, none⟩ = some (.int .i64 t335) := (blk_cell BK339.out 3).trans rfl; have hcz33_4 : w32.cell? ⟨gb339, 4, none⟩ = some (.int .i64 t336) := (blk_cell BK339.out 4).trans rfl; have hfz33_0 := blk_frozen BK339.out 0; have hfz33_1 := blk_frozen BK339.out 1; have hfz33_2 := blk_frozen BK339.out 2; have hfz33_3 := blk_frozen BK339.out 3; have hfz33_4 := blk_frozen BK339.out 4; have hnb34 := NB331_0.out; have hnc34 := NB0_331.out; have hcz35_0 : w32.cell? ⟨gb331, 0, none⟩ = some (.int .i64 0) := (blk_cell BK331.out 0).trans rfl; have hcz35_1 : w32.cell? ⟨gb331, 1, none⟩ = some (.int .i64 0) := (blk_cell BK331.out 1).trans rfl; have hcz35_2 : w32.cell? ⟨gb331, 2, none⟩ = some (.int .i64 0) := (blk_cell BK331.out 2).trans rfl; have hcz35_3 : w32.cell? ⟨gb331, 3, none⟩ = some (.int .i64 0) := (blk_cell BK331.out 3).trans rfl; have hcz35_4 : w32.cell? ⟨gb331, 4, none⟩ = some (.int .i64 0) := (blk_cell BK331.out 4).trans rfl; have hfz35_0 := blk_frozen BK331.out 0; have hfz35_1 := blk_frozen BK331.out 1; have hfz35_2 := blk_frozen BK331.out 2; have hfz35_3 := blk_frozen BK331.out 3; have hfz35_4 := blk_frozen BK331.out 4))
   refine bodyPost_ret (results_cell_row rfl _ _ gb331 39 #[.int .i64 t332, .int .i64 t352, .int .i64 t334, .int .i64 t335, .int .i64 t336] (0, 0) _ rfl (by (with_reducible repeat (first | refine blk_drewN ?_ _ | refine blk_drew ?_ | refine blk_alloc ?_ _)); refine blk_put (cs := #[.int .i64 t332, .int .i64 t352, .int .i64 t334, .int .i64 t335, .int .i64 0]) ?_ 4 _ rfl; (with_reducible repeat (first | refine blk_drewN ?_ _ | refine blk_drew ?_ | refine blk_alloc ?_ _)); refine blk_put (cs := #[.int .i64 t332, .int .i64 t352, .int .i64 t334, .int .i64 0, .int .i64 0]) ?_ 3 _ rfl; (with_reducible repeat (first | refine blk_drewN ?_ _ | refine blk_drew ?_ | refine blk_alloc ?_ _)); refine blk_put (cs := #[.int .i64 t332, .int .i64 t352, .int .i64 0, .int .i64 0, .int .i64 0]) ?_ 2 _ rfl; (with_reducible repeat (first | refine blk_drewN ?_ _ | refine blk_drew ?_ | refine blk_alloc ?_ _)); refine blk_put (cs := #[.int .i64 t332, .int .i64 0, .int .i64 0, .int .i64 0, .int .i64 0]) ?_ 1 _ rfl; (with_reducible repeat (first | refine blk_drewN ?_ _ | refine blk_drew ?_ | refine blk_alloc ?_ _)); refine blk_put (cs := #[.int .i64 0, .int .i64 0, .int .i64 0, .int .i64 0, .int .i64 0]) ?_ 0 _ rfl; (with_reducible repeat (first | refine blk_drewN ?_ _ | refine blk_drew ?_ | refine blk_alloc ?_ _)); refine blk_far ?_ NB331_339.out _; (with_reducible repeat (first | refine blk_drewN ?_ _ | refine blk_drew ?_ | refine blk_alloc ?_ _)); exact BK331.out) Try.underlying39 rfl (by kernel_rfl)) rfl ?_
   exact ⟨by first | rfl | (simp [errW_none, errW_some] <;> rfl) | (simp [*, errW_none, errW_some] <;> rfl), by repeat (first | (with_reducible first | exact HI0.out | apply IsS170.alloc | apply IsS170.drewN | apply IsS170.drew | apply IsS170.set_1 | apply IsS170.set_2 | refine IsS170.far ?_ NB0_331.out _ | refine IsS170.far ?_ NB0_339.out _) | exact HI0.out), by repeat (first | (with_reducible first | exact HB.out | apply below_alloc | apply pw_below_drewN | apply below_drew1 | refine below_set ?_ (IsS170.ge HI0.out) | refine below_set ?_ GE331.out | refine below_set ?_ GE339.out) | exact HB.out), by repeat (first | (with_reducible first | exact HK.out | apply KeepBut.set_ | apply keep_drewN | apply keep_drew | apply keep_alloc | refine keep_far ?_ GW331.out _ | refine keep_far ?_ GW339.out _) | exact HK.out)⟩
  ·rw [if_neg c20] at H
   have c20b0 : (t340 == 1) = false := beq_eq_false_iff_ne.mpr c20
   have c20b1 : (t340 != 1) = true := bne_iff_ne.mpr c20
   by_cases c36 : t340 = 2
   ·rw [if_pos c36] at H
    have c36b0 : (t340 == 2) = true := beq_iff_eq.mpr c36
    have c36b1 : (t340 != 2) = false := bne_eq_false_iff_eq.mpr c36
    clear c36
    obtain ⟨y355, hy355⟩ : ∃ y_ : List Int, y_ = (([(-1), 11] : List Int)) := ⟨_, rfl⟩
    replace H : ((spec_l1Int.f s0_0 t341 t342 y355).bind fun bt358 => (some (t332, t333, bt358.1, t335, t336, bt358.2.1, bt358.2.2))) = some (r1, r2, r3, r4, r5, r6, r7) := by first | (rw [hy355]; with_reducible exact H) | (have H2_ := (Option.bind_some _ _).symm.trans H; rw [hy355]; with_reducible exact H2_) | (have H2_ := (Option.bind_some _ _).symm.trans H; with_reducible exact H2_) | with_reducible exact H | (rw [hy355]; exact H) | exact H
    have Ny355 := zA hy355
    clear hy355
    obtain ⟨⟨t358, t359, t360⟩, A37, H⟩ := zB H
    try dsimp only at H
    simp only [Option.some.injEq, Prod.mk.injEq] at H
    obtain ⟨rfl, rfl, rfl, rfl, rfl, rfl, rfl⟩ := H
    go_enter Try.func147, Try.ntmps147
    go_wp2_with (first | ((with_reducible refine gate_dst (N := 2) rfl ?_); refine box_event ?hg (N := 2) ?hd (cs := #[.int .i64 0, .int .i64 0, .int .i64 0, .int .i64 0, .int .i64 0]) (t := 39) ?hr ?_; (case hd => rfl); (case hg => rfl); (case hr => first | (go_simp; done) | (go_simp; rfl)); intro gb331 hg w38 hbox hb; replace HB := zA (below_step zq31 hb); have BK331 := zA (hbox); have GW331 := zA ((zq21 : w.heap.size ≤ gb331)); have GE331 := zA ((Nat.le_trans HW0.out (zq21 : w.heap.size ≤ gb331) : w0.heap.size ≤ gb331)); replace HK := zA (KeepBut.trans zq2 (KeepBut.of_below hb g none) (.inl rfl)); have NB0_331 := zA ((zq40 : g ≠ gb331)); have NB331_0 := zA ((zq41 : gb331 ≠ g)); replace HI0 := zA (IsS170.below zq37 hb); clear hb hbox hg) | ((with_reducible refine gate_callee (f := 149) rfl ?_); refine goesL_ (some 5) rfl rfl Try.func149 (by kernel_rfl) rfl #[.pointer (some ⟨g, 0, none⟩)] rfl zq1 ?_; (with_reducible refine (spec_l7Draw.calls g s0_0 s0_1 s0_2 t332 t333 t334 t335 t336 t337 t338 w0 _ ?side1 ?side2 A2.out).mono ?_); (case side1 => repeat (first | (with_reducible first | exact HI0.out | apply IsS170.alloc | apply IsS170.drewN | apply IsS170.drew | apply IsS170.set_1 | apply IsS170.set_2 | refine IsS170.far ?_ NB0_331.out _) | exact HI0.out)); (case side2 => repeat (first | (with_reducible first | exact HB.out | apply below_alloc | apply pw_below_drewN | apply below_drew1 | refine below_set ?_ (IsS170.ge HI0.out) | refine below_set ?_ GE331.out) | exact HB.out)); rintro e w39 ⟨rfl, hi, hb, hk⟩; refine ⟨_, rfl, ?_⟩; replace BK331 := zA (KeepBut.blk hk (g' := gb331) (o := .cells #[.int .i64 0, .int .i64 0, .int .i64 0, .int .i64 0, .int .i64 0] 39 (0, 0)) zq14 NB331_0.out zq48); replace HK := zA (KeepBut.trans zq10 hk (.inl rfl)); replace HB := zA (hb); replace HI0 := zA (hi); clear hb hk hi) | ((with_reducible refine gate_dst (N := 3) rfl ?_); refine box_event ?hg (N := 3) ?hd (cs := #[.int .i64 0, .int .i64 0, .int .i64 0, .int .i64 0, .int .i64 0]) (t := 39) ?hr ?_; (case hd => rfl); (case hg => rfl); (case hr => first | (go_simp; done) | (go_simp; rfl)); intro gb339 hg w40 hbox hb; replace HB := zA (below_step zq71 hb); have BK339 := zA (hbox); have GW339 := zA ((zq23 : w.heap.size ≤ gb339)); have GE339 := zA ((Nat.le_trans HW0.out (zq23 : w.heap.size ≤ gb339) : w0.heap.size ≤ gb339)); replace HK := zA (KeepBut.trans zq10 (KeepBut.of_below hb g none) (.inl rfl)); have NB331_339 := zA ((zq56 : gb331 ≠ gb339)); have NB339_331 := zA ((zq57 : gb339 ≠ gb331)); replace BK331 := zA (blk_below (g := gb331) (o := .cells #[.int .i64 0, .int .i64 0, .int .i64 0, .int .i64 0, .int .i64 0] 39 (0, 0)) zq14 hb); have NB0_339 := zA ((zq45 : g ≠ gb339)); have NB339_0 := zA ((zq46 : gb339 ≠ g)); replace HI0 := zA (IsS170.below zq68 hb); clear hb hbox hg; have hnb41 := NB339_331.out; have hnc41 := NB331_339.out; have hnb42 := NB339_0.out; have hnc42 := NB0_339.out; have hcz43_0 : w40.cell? ⟨gb339, 0, none⟩ = some (.int .i64 0) := (blk_cell BK339.out 0).trans rfl; have hcz43_1 : w40.cell? ⟨gb339, 1, none⟩ = some (.int .i64 0) := (blk_cell BK339.out 1).trans rfl; have hcz43_2 : w40.cell? ⟨gb339, 2, none⟩ = some (.int .i64 0) := (blk_cell BK339.out 2).trans rfl; have hcz43_3 : w40.cell? ⟨gb339, 3, none⟩ = some (.int .i64 0) := (blk_cell BK339.out 3).trans rfl; have hcz43_4 : w40.cell? ⟨gb339, 4, none⟩ = some (.int .i64 0) := (blk_cell BK339.out 4).trans rfl; have hfz43_0 := blk_frozen BK339.out 0; have hfz43_1 := blk_frozen BK339.out 1; have hfz43_2 := blk_frozen BK339.out 2; have hfz43_3 := blk_frozen BK339.out 3; have hfz43_4 := blk_frozen BK339.out 4) | ((with_reducible refine gate_callee (f := 131) rfl ?_); refine goesL_ (some 7) rfl rfl Try.func131 (by kernel_rfl) rfl #[.pointer (some ⟨g, 0, none⟩), .int .i64 12] rfl zq1 ?_; (with_reducible refine (spec_l1Below.calls g s0_0 t337 t338 12 t340 t341 t342 w0 _ ?side1 ?side2 A3.out).mono ?_); (case side1 => repeat (first | (with_reducible first | exact HI0.out | apply IsS170.alloc | apply IsS170.drewN | apply IsS170.drew | apply IsS170.set_1 | apply IsS170.set_2 | refine IsS170.far ?_ NB0_331.out _ | refine IsS170.far ?_ NB0_339.out _) | exact HI0.out)); (case side2 => repeat (first | (with_reducible first | exact HB.out | apply below_alloc | apply pw_below_drewN | apply below_drew1 | refine below_set ?_ (IsS170.ge HI0.out) | refine below_set ?_ GE331.out | refine below_set ?_ GE339.out) | exact HB.out)); rintro e w44 ⟨rfl, hi, hb, hk⟩; refine ⟨_, rfl, ?_⟩; replace BK331 := zA (KeepBut.blk hk (g' := gb331) (o := .cells #[.int .i64 0, .int .i64 0, .int .i64 0, .int .i64 0, .int .i64 0] 39 (0, 0)) zq13 NB331_0.out zq48); replace BK339 := zA (KeepBut.blk hk (g' := gb339) (o := .cells #[.int .i64 t332, .int .i64 t333, .int .i64 t334, .int .i64 t335, .int .i64 t336] 39 (0, 0)) zq7 NB339_0.out zq48); replace HK := zA (KeepBut.trans zq12 hk (.inl rfl)); replace HB := zA (hb); replace HI0 := zA (hi); clear hb hk hi) | ((with_reducible refine gate_dst (N := 23) rfl ?_); refine Kd.R_lit (Kd.int .i64) _ 3 ?hg (N := 23) ?hd (xs := ([(-1), 11] : List Int)) (inner := [.int .i64 (-1), .int .i64 11]) (ok := fun _ => True) (okp := fun _ => True) ?hr ?hp (fun _ hk => hk) trivial (Below.refl _ _) (Nat.le_refl _) zq48 ?_; (case hd => rfl); (case hg => rfl); (case hr => first | (go_simp; done) | (go_simp; rfl)); (case hp => exact (Reps.one (show Kd.M (Kd.int .i64) _ _ _ (-1) [.int .i64 (-1)] from rfl) (Reps.one (show Kd.M (Kd.int .i64) _ _ _ 11 [.int .i64 11] from rfl) (Reps.none _ _)))); intro v356 w45 ho46 hb hg_ hnew_; clear hg_ hnew_; (first | rw [← Ny355.out] at ho46 | (simp only [Int.reduceToNat] at ho46; rw [← Ny355.out] at ho46)); have HO357 := zA (Kd.R_lower ho46 (keep_size (w := w) (g := g) (row := none) zq12)); replace BK331 := zA (blk_below (g := gb331) (o := .cells #[.int .i64 0, .int .i64 0, .int .i64 0, .int .i64 0, .int .i64 0] 39 (0, 0)) zq14 hb); replace BK339 := zA (blk_below (g := gb339) (o := .cells #[.int .i64 t332, .int .i64 t333, .int .i64 t334, .int .i64 t335, .int .i64 t336] 39 (0, 0)) zq72 hb); replace HK := zA (KeepBut.trans zq12 (KeepBut.of_below hb g none) (.inl rfl)); replace HB := zA (below_step zq82 hb); replace HI0 := zA (IsS170.below zq80 hb); clear hb ho46; obtain ⟨Ao47, co47, eo47⟩ := Kd.R_slice HO357.out; subst eo47) | ((with_reducible refine gate_callee (f := 140) rfl ?_); refine goesL_ (some 24) rfl rfl Try.func140 (by kernel_rfl) rfl #[.pointer (some ⟨g, 0, none⟩), .slice Ao47 y355.length co47] rfl zq1 ?_; (with_reducible refine (spec_l1Int.calls g s0_0 t341 t342 _ _ y355 t358 t359 t360 w0 _ ?side1 ?side2 ?side3 ?side4 ?side5 A37.out).mono ?_); (case side1 => repeat (first | (with_reducible first | exact HI0.out | apply IsS170.alloc | apply IsS170.drewN | apply IsS170.drew | apply IsS170.set_1 | apply IsS170.set_2 | refine IsS170.far ?_ NB0_331.out _ | refine IsS170.far ?_ NB0_339.out _) | exact HI0.out)); (case side2 => repeat (first | (with_reducible first | exact HB.out | apply below_alloc | apply pw_below_drewN | apply below_drew1 | refine below_set ?_ (IsS170.ge HI0.out) | refine below_set ?_ GE331.out | refine below_set ?_ GE339.out) | exact HB.out)); (case side3 => repeat (first | exact (Kd.R_reads' HO357.out).2.2 | (with_reducible refine Kd.C_alloc ?_ _) | (with_reducible refine Kd.C_drewN ?_ _) | (with_reducible refine Kd.C_drew ?_))); (case side4 => exact (Kd.R_reads' HO357.out).2.1); (case side5 => exact far_slice (IsS170.own_ne HI0.out HO357.out zq55)); rintro e w48 ⟨rfl, hi, hb, hk⟩; refine ⟨_, rfl, ?_⟩; replace BK331 := zA (KeepBut.blk hk (g' := gb331) (o := .cells #[.int .i64 0, .int .i64 0, .int .i64 0, .int .i64 0, .int .i64 0] 39 (0, 0)) zq14 NB331_0.out zq48); replace BK339 := zA (KeepBut.blk hk (g' := gb339) (o := .cells #[.int .i64 t332, .int .i64 t333, .int .i64 t334, .int .i64 t335, .int .i64 t336] 39 (0, 0)) zq72 NB339_0.out zq48); replace HO357 := zA (Kd.R_mono (Kd.R_keep (IsS170.apart (show IsS170 w0 _ g s0_0 t341 t342 from by repeat (first | (with_reducible first | exact HI0.out | apply IsS170.alloc | apply IsS170.drewN | apply IsS170.drew | apply IsS170.set_1 | apply IsS170.set_2 | refine IsS170.far ?_ NB0_331.out _ | refine IsS170.far ?_ NB0_339.out _) | exact HI0.out)) (by (with_reducible repeat (first | apply Kd.R_alloc | apply Kd.R_drewN | apply Kd.R_drew)); exact HO357.out) zq55) hk (fun _ h => h.2)) (fun _ h => h.1)); replace HK := zA (KeepBut.trans zq12 hk (.inl rfl)); replace HB := zA (hb); replace HI0 := zA (hi); clear hb hk hi; have hcz49_0 : w48.cell? ⟨gb339, 0, none⟩ = some (.int .i64 t332) := (blk_cell BK339.out 0).trans rfl; have hcz49_1 : w48.cell? ⟨gb339, 1, none⟩ = some (.int .i64 t333) := (blk_cell BK339.out 1).trans rfl; have hcz49_2 : w48.cell? ⟨gb339, 2, none⟩ = some (.int .i64 t334) := (blk_cell BK339.out 2).trans rfl; have hcz49_3 : w48.cell? ⟨gb339, 3, none⟩ = some (.int .i64 t335) := (blk_cell BK339.out 3).trans rfl; have hcz49_4 : w48.cell? ⟨gb339, 4, none⟩ = some (.int .i64 t336) := (blk_cell BK339.out 4).trans rfl; have hfz49_0 := blk_frozen BK339.out 0; have hfz49_1 := blk_frozen BK339.out 1; have hfz49_2 := blk_frozen BK339.out 2; have hfz49_3 := blk_frozen BK339.out 3; have hfz49_4 := blk_frozen BK339.out 4; have hnb50 := NB331_0.out; have hnc50 := NB0_331.out; have hcz51_0 : w48.cell? ⟨gb331, 0, none⟩ = some (.int .i64 0) := (blk_cell BK331.out 0).trans rfl; have hcz51_1 : w48.cell? ⟨gb331, 1, none⟩ = some (.int .i64 0) := (blk_cell BK331.out 1).trans rfl; have hcz51_2 : w48.cell? ⟨gb331, 2, none⟩ = some (.int .i64 0) := (blk_cell BK331.out 2).trans rfl; have hcz51_3 : w48.cell? ⟨gb331, 3, none⟩ = some (.int .i64 0) := (blk_cell BK331.out 3).trans rfl; have hcz51_4 : w48.cell? ⟨gb331, 4, none⟩ = some (.int .i64 0) := (blk_cell BK331.out 4).trans rfl; have hfz51_0 := blk_frozen BK331.out 0; have hfz51_1 := blk_frozen BK331.out 1; have hfz51_2 := blk_frozen BK331.out 2; have hfz51_3 := blk_frozen BK331.out 3; have hfz51_4 := blk_frozen BK331.out 4))
    refine bodyPost_ret (results_cell_row rfl _ _ gb331 39 #[.int .i64 t332, .int .i64 t333, .int .i64 t358, .int .i64 t335, .int .i64 t336] (0, 0) _ rfl (by (with_reducible repeat (first | refine blk_drewN ?_ _ | refine blk_drew ?_ | refine blk_alloc ?_ _)); refine blk_put (cs := #[.int .i64 t332, .int .i64 t333, .int .i64 t358, .int .i64 t335, .int .i64 0]) ?_ 4 _ rfl; (with_reducible repeat (first | refine blk_drewN ?_ _ | refine blk_drew ?_ | refine blk_alloc ?_ _)); refine blk_put (cs := #[.int .i64 t332, .int .i64 t333, .int .i64 t358, .int .i64 0, .int .i64 0]) ?_ 3 _ rfl; (with_reducible repeat (first | refine blk_drewN ?_ _ | refine blk_drew ?_ | refine blk_alloc ?_ _)); refine blk_put (cs := #[.int .i64 t332, .int .i64 t333, .int .i64 0, .int .i64 0, .int .i64 0]) ?_ 2 _ rfl; (with_reducible repeat (first | refine blk_drewN ?_ _ | refine blk_drew ?_ | refine blk_alloc ?_ _)); refine blk_put (cs := #[.int .i64 t332, .int .i64 0, .int .i64 0, .int .i64 0, .int .i64 0]) ?_ 1 _ rfl; (with_reducible repeat (first | refine blk_drewN ?_ _ | refine blk_drew ?_ | refine blk_alloc ?_ _)); refine blk_put (cs := #[.int .i64 0, .int .i64 0, .int .i64 0, .int .i64 0, .int .i64 0]) ?_ 0 _ rfl; (with_reducible repeat (first | refine blk_drewN ?_ _ | refine blk_drew ?_ | refine blk_alloc ?_ _)); refine blk_far ?_ NB331_339.out _; (with_reducible repeat (first | refine blk_drewN ?_ _ | refine blk_drew ?_ | refine blk_alloc ?_ _)); exact BK331.out) Try.underlying39 rfl (by kernel_rfl)) rfl ?_
    exact ⟨by first | rfl | (simp [errW_none, errW_some] <;> rfl) | (simp [*, errW_none, errW_some] <;> rfl), by repeat (first | (with_reducible first | exact HI0.out | apply IsS170.alloc | apply IsS170.drewN | apply IsS170.drew | apply IsS170.set_1 | apply IsS170.set_2 | refine IsS170.far ?_ NB0_331.out _ | refine IsS170.far ?_ NB0_339.out _) | exact HI0.out), by repeat (first | (with_reducible first | exact HB.out | apply below_alloc | apply pw_below_drewN | apply below_drew1 | refine below_set ?_ (IsS170.ge HI0.out) | refine below_set ?_ GE331.out | refine below_set ?_ GE339.out) | exact HB.out), by repeat (first | (with_reducible first | exact HK.out | apply KeepBut.set_ | apply keep_drewN | apply keep_drew | apply keep_alloc | refine keep_far ?_ GW331.out _ | refine keep_far ?_ GW339.out _) | exact HK.out)⟩
   ·rw [if_neg c36] at H
    have c36b0 : (t340 == 2) = false := beq_eq_false_iff_ne.mpr c36
    have c36b1 : (t340 != 2) = true := bne_iff_ne.mpr c36
    by_cases c52 : t340 = 3
    ·rw [if_pos c52] at H
     have c52b0 : (t340 == 3) = true := beq_iff_eq.mpr c52
     have c52b1 : (t340 != 3) = false := bne_eq_false_iff_eq.mpr c52
     clear c52
     obtain ⟨y361, hy361⟩ : ∃ y_ : List Int, y_ = (([(-1), 7, 8] : List Int)) := ⟨_, rfl⟩
     replace H : ((spec_l1Int.f s0_0 t341 t342 y361).bind fun bt364 => (some (t332, t333, t334, t335, bt364.1, bt364.2.1, bt364.2.2))) = some (r1, r2, r3, r4, r5, r6, r7) := by first | (rw [hy361]; with_reducible exact H) | (have H2_ := (Option.bind_some _ _).symm.trans H; rw [hy361]; with_reducible exact H2_) | (have H2_ := (Option.bind_some _ _).symm.trans H; with_reducible exact H2_) | with_reducible exact H | (rw [hy361]; exact H) | exact H
     have Ny361 := zA hy361
     clear hy361
     obtain ⟨⟨t364, t365, t366⟩, A53, H⟩ := zB H
     try dsimp only at H
     simp only [Option.some.injEq, Prod.mk.injEq] at H
     obtain ⟨rfl, rfl, rfl, rfl, rfl, rfl, rfl⟩ := H
     go_enter Try.func147, Try.ntmps147
     go_wp2_with (first | ((with_reducible refine gate_dst (N := 2) rfl ?_); refine box_event ?hg (N := 2) ?hd (cs := #[.int .i64 0, .int .i64 0, .int .i64 0, .int .i64 0, .int .i64 0]) (t := 39) ?hr ?_; (case hd => rfl); (case hg => rfl); (case hr => first | (go_simp; done) | (go_simp; rfl)); intro gb331 hg w54 hbox hb; replace HB := zA (below_step zq31 hb); have BK331 := zA (hbox); have GW331 := zA ((zq21 : w.heap.size ≤ gb331)); have GE331 := zA ((Nat.le_trans HW0.out (zq21 : w.heap.size ≤ gb331) : w0.heap.size ≤ gb331)); replace HK := zA (KeepBut.trans zq2 (KeepBut.of_below hb g none) (.inl rfl)); have NB0_331 := zA ((zq40 : g ≠ gb331)); have NB331_0 := zA ((zq41 : gb331 ≠ g)); replace HI0 := zA (IsS170.below zq37 hb); clear hb hbox hg) | ((with_reducible refine gate_callee (f := 149) rfl ?_); refine goesL_ (some 5) rfl rfl Try.func149 (by kernel_rfl) rfl #[.pointer (some ⟨g, 0, none⟩)] rfl zq1 ?_; (with_reducible refine (spec_l7Draw.calls g s0_0 s0_1 s0_2 t332 t333 t334 t335 t336 t337 t338 w0 _ ?side1 ?side2 A2.out).mono ?_); (case side1 => repeat (first | (with_reducible first | exact HI0.out | apply IsS170.alloc | apply IsS170.drewN | apply IsS170.drew | apply IsS170.set_1 | apply IsS170.set_2 | refine IsS170.far ?_ NB0_331.out _) | exact HI0.out)); (case side2 => repeat (first | (with_reducible first | exact HB.out | apply below_alloc | apply pw_below_drewN | apply below_drew1 | refine below_set ?_ (IsS170.ge HI0.out) | refine below_set ?_ GE331.out) | exact HB.out)); rintro e w55 ⟨rfl, hi, hb, hk⟩; refine ⟨_, rfl, ?_⟩; replace BK331 := zA (KeepBut.blk hk (g' := gb331) (o := .cells #[.int .i64 0, .int .i64 0, .int .i64 0, .int .i64 0, .int .i64 0] 39 (0, 0)) zq14 NB331_0.out zq48); replace HK := zA (KeepBut.trans zq10 hk (.inl rfl)); replace HB := zA (hb); replace HI0 := zA (hi); clear hb hk hi) | ((with_reducible refine gate_dst (N := 3) rfl ?_); refine box_event ?hg (N := 3) ?hd (cs := #[.int .i64 0, .int .i64 0, .int .i64 0, .int .i64 0, .int .i64 0]) (t := 39) ?hr ?_; (case hd => rfl); (case hg => rfl); (case hr => first | (go_simp; done) | (go_simp; rfl)); intro gb339 hg w56 hbox hb; replace HB := zA (below_step zq71 hb); have BK339 := zA (hbox); have GW339 := zA ((zq23 : w.heap.size ≤ gb339)); have GE339 := zA ((Nat.le_trans HW0.out (zq23 : w.heap.size ≤ gb339) : w0.heap.size ≤ gb339)); replace HK := zA (KeepBut.trans zq10 (KeepBut.of_below hb g none) (.inl rfl)); have NB331_339 := zA ((zq56 : gb331 ≠ gb339)); have NB339_331 := zA ((zq57 : gb339 ≠ gb331)); replace BK331 := zA (blk_below (g := gb331) (o := .cells #[.int .i64 0, .int .i64 0, .int .i64 0, .int .i64 0, .int .i64 0] 39 (0, 0)) zq14 hb); have NB0_339 := zA ((zq45 : g ≠ gb339)); have NB339_0 := zA ((zq46 : gb339 ≠ g)); replace HI0 := zA (IsS170.below zq68 hb); clear hb hbox hg; have hnb57 := NB339_331.out; have hnc57 := NB331_339.out; have hnb58 := NB339_0.out; have hnc58 := NB0_339.out; have hcz59_0 : w56.cell? ⟨gb339, 0, none⟩ = some (.int .i64 0) := (blk_cell BK339.out 0).trans rfl; have hcz59_1 : w56.cell? ⟨gb339, 1, none⟩ = some (.int .i64 0) := (blk_cell BK339.out 1).trans rfl; have hcz59_2 : w56.cell? ⟨gb339, 2, none⟩ = some (.int .i64 0) := (blk_cell BK339.out 2).trans rfl; have hcz59_3 : w56.cell? ⟨gb339, 3, none⟩ = some (.int .i64 0) := (blk_cell BK339.out 3).trans rfl; have hcz59_4 : w56.cell? ⟨gb339, 4, none⟩ = some (.int .i64 0) := (blk_cell BK339.out 4).trans rfl; have hfz59_0 := blk_frozen BK339.out 0; have hfz59_1 := blk_frozen BK339.out 1; have hfz59_2 := blk_frozen BK339.out 2; have hfz59_3 := blk_frozen BK339.out 3; have hfz59_4 := blk_frozen BK339.out 4) | ((with_reducible refine gate_callee (f := 131) rfl ?_); refine goesL_ (some 7) rfl rfl Try.func131 (by kernel_rfl) rfl #[.pointer (some ⟨g, 0, none⟩), .int .i64 12] rfl zq1 ?_; (with_reducible refine (spec_l1Below.calls g s0_0 t337 t338 12 t340 t341 t342 w0 _ ?side1 ?side2 A3.out).mono ?_); (case side1 => repeat (first | (with_reducible first | exact HI0.out | apply IsS170.alloc | apply IsS170.drewN | apply IsS170.drew | apply IsS170.set_1 | apply IsS170.set_2 | refine IsS170.far ?_ NB0_331.out _ | refine IsS170.far ?_ NB0_339.out _) | exact HI0.out)); (case side2 => repeat (first | (with_reducible first | exact HB.out | apply below_alloc | apply pw_below_drewN | apply below_drew1 | refine below_set ?_ (IsS170.ge HI0.out) | refine below_set ?_ GE331.out | refine below_set ?_ GE339.out) | exact HB.out)); rintro e w60 ⟨rfl, hi, hb, hk⟩; refine ⟨_, rfl, ?_⟩; replace BK331 := zA (KeepBut.blk hk (g' := gb331) (o := .cells #[.int .i64 0, .int .i64 0, .int .i64 0, .int .i64 0, .int .i64 0] 39 (0, 0)) zq13 NB331_0.out zq48); replace BK339 := zA (KeepBut.blk hk (g' := gb339) (o := .cells #[.int .i64 t332, .int .i64 t333, .int .i64 t334, .int .i64 t335, .int .i64 t336] 39 (0, 0)) zq7 NB339_0.out zq48); replace HK := zA (KeepBut.trans zq12 hk (.inl rfl)); replace HB := zA (hb); replace HI0 := zA (hi); clear hb hk hi) | ((with_reducible refine gate_dst (N := 29) rfl ?_); refine Kd.R_lit (Kd.int .i64) _ 3 ?hg (N := 29) ?hd (xs := ([(-1), 7, 8] : List Int)) (inner := [.int .i64 (-1), .int .i64 7, .int .i64 8]) (ok := fun _ => True) (okp := fun _ => True) ?hr ?hp (fun _ hk => hk) trivial (Below.refl _ _) (Nat.le_refl _) zq48 ?_; (case hd => rfl); (case hg => rfl); (case hr => first | (go_simp; done) | (go_simp; rfl)); (case hp => exact (Reps.one (show Kd.M (Kd.int .i64) _ _ _ (-1) [.int .i64 (-1)] from rfl) (Reps.one (show Kd.M (Kd.int .i64) _ _ _ 7 [.int .i64 7] from rfl) (Reps.one (show Kd.M (Kd.int .i64) _ _ _ 8 [.int .i64 8] from rfl) (Reps.none _ _))))); intro v362 w61 ho62 hb hg_ hnew_; clear hg_ hnew_; (first | rw [← Ny361.out] at ho62 | (simp only [Int.reduceToNat] at ho62; rw [← Ny361.out] at ho62)); have HO363 := zA (Kd.R_lower ho62 (keep_size (w := w) (g := g) (row := none) zq12)); replace BK331 := zA (blk_below (g := gb331) (o := .cells #[.int .i64 0, .int .i64 0, .int .i64 0, .int .i64 0, .int .i64 0] 39 (0, 0)) zq14 hb); replace BK339 := zA (blk_below (g := gb339) (o := .cells #[.int .i64 t332, .int .i64 t333, .int .i64 t334, .int .i64 t335, .int .i64 t336] 39 (0, 0)) zq72 hb); replace HK := zA (KeepBut.trans zq12 (KeepBut.of_below hb g none) (.inl rfl)); replace HB := zA (below_step zq82 hb); replace HI0 := zA (IsS170.below zq80 hb); clear hb ho62; obtain ⟨Ao63, co63, eo63⟩ := Kd.R_slice HO363.out; subst eo63) | ((with_reducible refine gate_callee (f := 140) rfl ?_); refine goesL_ (some 30) rfl rfl Try.func140 (by kernel_rfl) rfl #[.pointer (some ⟨g, 0, none⟩), .slice Ao63 y361.length co63] rfl zq1 ?_; (with_reducible refine (spec_l1Int.calls g s0_0 t341 t342 _ _ y361 t364 t365 t366 w0 _ ?side1 ?side2 ?side3 ?side4 ?side5 A53.out).mono ?_); (case side1 => repeat (first | (with_reducible first | exact HI0.out | apply IsS170.alloc | apply IsS170.drewN | apply IsS170.drew | apply IsS170.set_1 | apply IsS170.set_2 | refine IsS170.far ?_ NB0_331.out _ | refine IsS170.far ?_ NB0_339.out _) | exact HI0.out)); (case side2 => repeat (first | (with_reducible first | exact HB.out | apply below_alloc | apply pw_below_drewN | apply below_drew1 | refine below_set ?_ (IsS170.ge HI0.out) | refine below_set ?_ GE331.out | refine below_set ?_ GE339.out) | exact HB.out)); (case side3 => repeat (first | exact (Kd.R_reads' HO363.out).2.2 | (with_reducible refine Kd.C_alloc ?_ _) | (with_reducible refine Kd.C_drewN ?_ _) | (with_reducible refine Kd.C_drew ?_))); (case side4 => exact (Kd.R_reads' HO363.out).2.1); (case side5 => exact far_slice (IsS170.own_ne HI0.out HO363.out zq55)); rintro e w64 ⟨rfl, hi, hb, hk⟩; refine ⟨_, rfl, ?_⟩; replace BK331 := zA (KeepBut.blk hk (g' := gb331) (o := .cells #[.int .i64 0, .int .i64 0, .int .i64 0, .int .i64 0, .int .i64 0] 39 (0, 0)) zq14 NB331_0.out zq48); replace BK339 := zA (KeepBut.blk hk (g' := gb339) (o := .cells #[.int .i64 t332, .int .i64 t333, .int .i64 t334, .int .i64 t335, .int .i64 t336] 39 (0, 0)) zq72 NB339_0.out zq48); replace HO363 := zA (Kd.R_mono (Kd.R_keep (IsS170.apart (show IsS170 w0 _ g s0_0 t341 t342 from by repeat (first | (with_reducible first | exact HI0.out | apply IsS170.alloc | apply IsS170.drewN | apply IsS170.drew | apply IsS170.set_1 | apply IsS170.set_2 | refine IsS170.far ?_ NB0_331.out _ | refine IsS170.far ?_ NB0_339.out _) | exact HI0.out)) (by (with_reducible repeat (first | apply Kd.R_alloc | apply Kd.R_drewN | apply Kd.R_drew)); exact HO363.out) zq55) hk (fun _ h => h.2)) (fun _ h => h.1)); replace HK := zA (KeepBut.trans zq12 hk (.inl rfl)); replace HB := zA (hb); replace HI0 := zA (hi); clear hb hk hi; have hcz65_0 : w64.cell? ⟨gb339, 0, none⟩ = some (.int .i64 t332) := (blk_cell BK339.out 0).trans rfl; have hcz65_1 : w64.cell? ⟨gb339, 1, none⟩ = some (.int .i64 t333) := (blk_cell BK339.out 1).trans rfl; have hcz65_2 : w64.cell? ⟨gb339, 2, none⟩ = some (.int .i64 t334) := (blk_cell BK339.out 2).trans rfl; have hcz65_3 : w64.cell? ⟨gb339, 3, none⟩ = some (.int .i64 t335) := (blk_cell BK339.out 3).trans rfl; have hcz65_4 : w64.cell? ⟨gb339, 4, none⟩ = some (.int .i64 t336) := (blk_cell BK339.out 4).trans rfl; have hfz65_0 := blk_frozen BK339.out 0; have hfz65_1 := blk_frozen BK339.out 1; have hfz65_2 := blk_frozen BK339.out 2; have hfz65_3 := blk_frozen BK339.out 3; have hfz65_4 := blk_frozen BK339.out 4; have hnb66 := NB331_0.out; have hnc66 := NB0_331.out; have hcz67_0 : w64.cell? ⟨gb331, 0, none⟩ = some (.int .i64 0) := (blk_cell BK331.out 0).trans rfl; have hcz67_1 : w64.cell? ⟨gb331, 1, none⟩ = some (.int .i64 0) := (blk_cell BK331.out 1).trans rfl; have hcz67_2 : w64.cell? ⟨gb331, 2, none⟩ = some (.int .i64 0) := (blk_cell BK331.out 2).trans rfl; have hcz67_3 : w64.cell? ⟨gb331, 3, none⟩ = some (.int .i64 0) := (blk_cell BK331.out 3).trans rfl; have hcz67_4 : w64.cell? ⟨gb331, 4, none⟩ = some (.int .i64 0) := (blk_cell BK331.out 4).trans rfl; have hfz67_0 := blk_frozen BK331.out 0; have hfz67_1 := blk_frozen BK331.out 1; have hfz67_2 := blk_frozen BK331.out 2; have hfz67_3 := blk_frozen BK331.out 3; have hfz67_4 := blk_frozen BK331.out 4))
     refine bodyPost_ret (results_cell_row rfl _ _ gb331 39 #[.int .i64 t332, .int .i64 t333, .int .i64 t334, .int .i64 t335, .int .i64 t364] (0, 0) _ rfl (by (with_reducible repeat (first | refine blk_drewN ?_ _ | refine blk_drew ?_ | refine blk_alloc ?_ _)); refine blk_put (cs := #[.int .i64 t332, .int .i64 t333, .int .i64 t334, .int .i64 t335, .int .i64 0]) ?_ 4 _ rfl; (with_reducible repeat (first | refine blk_drewN ?_ _ | refine blk_drew ?_ | refine blk_alloc ?_ _)); refine blk_put (cs := #[.int .i64 t332, .int .i64 t333, .int .i64 t334, .int .i64 0, .int .i64 0]) ?_ 3 _ rfl; (with_reducible repeat (first | refine blk_drewN ?_ _ | refine blk_drew ?_ | refine blk_alloc ?_ _)); refine blk_put (cs := #[.int .i64 t332, .int .i64 t333, .int .i64 0, .int .i64 0, .int .i64 0]) ?_ 2 _ rfl; (with_reducible repeat (first | refine blk_drewN ?_ _ | refine blk_drew ?_ | refine blk_alloc ?_ _)); refine blk_put (cs := #[.int .i64 t332, .int .i64 0, .int .i64 0, .int .i64 0, .int .i64 0]) ?_ 1 _ rfl; (with_reducible repeat (first | refine blk_drewN ?_ _ | refine blk_drew ?_ | refine blk_alloc ?_ _)); refine blk_put (cs := #[.int .i64 0, .int .i64 0, .int .i64 0, .int .i64 0, .int .i64 0]) ?_ 0 _ rfl; (with_reducible repeat (first | refine blk_drewN ?_ _ | refine blk_drew ?_ | refine blk_alloc ?_ _)); refine blk_far ?_ NB331_339.out _; (with_reducible repeat (first | refine blk_drewN ?_ _ | refine blk_drew ?_ | refine blk_alloc ?_ _)); exact BK331.out) Try.underlying39 rfl (by kernel_rfl)) rfl ?_
     exact ⟨by first | rfl | (simp [errW_none, errW_some] <;> rfl) | (simp [*, errW_none, errW_some] <;> rfl), by repeat (first | (with_reducible first | exact HI0.out | apply IsS170.alloc | apply IsS170.drewN | apply IsS170.drew | apply IsS170.set_1 | apply IsS170.set_2 | refine IsS170.far ?_ NB0_331.out _ | refine IsS170.far ?_ NB0_339.out _) | exact HI0.out), by repeat (first | (with_reducible first | exact HB.out | apply below_alloc | apply pw_below_drewN | apply below_drew1 | refine below_set ?_ (IsS170.ge HI0.out) | refine below_set ?_ GE331.out | refine below_set ?_ GE339.out) | exact HB.out), by repeat (first | (with_reducible first | exact HK.out | apply KeepBut.set_ | apply keep_drewN | apply keep_drew | apply keep_alloc | refine keep_far ?_ GW331.out _ | refine keep_far ?_ GW339.out _) | exact HK.out)⟩
    ·rw [if_neg c52] at H
     have c52b0 : (t340 == 3) = false := beq_eq_false_iff_ne.mpr c52
     have c52b1 : (t340 != 3) = true := bne_iff_ne.mpr c52
     simp only [Option.some.injEq, Prod.mk.injEq] at H
     obtain ⟨rfl, rfl, rfl, rfl, rfl, rfl, rfl⟩ := H
     go_enter Try.func147, Try.ntmps147
     go_wp2_with (first | ((with_reducible refine gate_dst (N := 2) rfl ?_); refine box_event ?hg (N := 2) ?hd (cs := #[.int .i64 0, .int .i64 0, .int .i64 0, .int .i64 0, .int .i64 0]) (t := 39) ?hr ?_; (case hd => rfl); (case hg => rfl); (case hr => first | (go_simp; done) | (go_simp; rfl)); intro gb331 hg w68 hbox hb; replace HB := zA (below_step zq31 hb); have BK331 := zA (hbox); have GW331 := zA ((zq21 : w.heap.size ≤ gb331)); have GE331 := zA ((Nat.le_trans HW0.out (zq21 : w.heap.size ≤ gb331) : w0.heap.size ≤ gb331)); replace HK := zA (KeepBut.trans zq2 (KeepBut.of_below hb g none) (.inl rfl)); have NB0_331 := zA ((zq40 : g ≠ gb331)); have NB331_0 := zA ((zq41 : gb331 ≠ g)); replace HI0 := zA (IsS170.below zq37 hb); clear hb hbox hg) | ((with_reducible refine gate_callee (f := 149) rfl ?_); refine goesL_ (some 5) rfl rfl Try.func149 (by kernel_rfl) rfl #[.pointer (some ⟨g, 0, none⟩)] rfl zq1 ?_; (with_reducible refine (spec_l7Draw.calls g s0_0 s0_1 s0_2 t332 t333 t334 t335 t336 t337 t338 w0 _ ?side1 ?side2 A2.out).mono ?_); (case side1 => repeat (first | (with_reducible first | exact HI0.out | apply IsS170.alloc | apply IsS170.drewN | apply IsS170.drew | apply IsS170.set_1 | apply IsS170.set_2 | refine IsS170.far ?_ NB0_331.out _) | exact HI0.out)); (case side2 => repeat (first | (with_reducible first | exact HB.out | apply below_alloc | apply pw_below_drewN | apply below_drew1 | refine below_set ?_ (IsS170.ge HI0.out) | refine below_set ?_ GE331.out) | exact HB.out)); rintro e w69 ⟨rfl, hi, hb, hk⟩; refine ⟨_, rfl, ?_⟩; replace BK331 := zA (KeepBut.blk hk (g' := gb331) (o := .cells #[.int .i64 0, .int .i64 0, .int .i64 0, .int .i64 0, .int .i64 0] 39 (0, 0)) zq14 NB331_0.out zq48); replace HK := zA (KeepBut.trans zq10 hk (.inl rfl)); replace HB := zA (hb); replace HI0 := zA (hi); clear hb hk hi) | ((with_reducible refine gate_dst (N := 3) rfl ?_); refine box_event ?hg (N := 3) ?hd (cs := #[.int .i64 0, .int .i64 0, .int .i64 0, .int .i64 0, .int .i64 0]) (t := 39) ?hr ?_; (case hd => rfl); (case hg => rfl); (case hr => first | (go_simp; done) | (go_simp; rfl)); intro gb339 hg w70 hbox hb; replace HB := zA (below_step zq71 hb); have BK339 := zA (hbox); have GW339 := zA ((zq23 : w.heap.size ≤ gb339)); have GE339 := zA ((Nat.le_trans HW0.out (zq23 : w.heap.size ≤ gb339) : w0.heap.size ≤ gb339)); replace HK := zA (KeepBut.trans zq10 (KeepBut.of_below hb g none) (.inl rfl)); have NB331_339 := zA ((zq56 : gb331 ≠ gb339)); have NB339_331 := zA ((zq57 : gb339 ≠ gb331)); replace BK331 := zA (blk_below (g := gb331) (o := .cells #[.int .i64 0, .int .i64 0, .int .i64 0, .int .i64 0, .int .i64 0] 39 (0, 0)) zq14 hb); have NB0_339 := zA ((zq45 : g ≠ gb339)); have NB339_0 := zA ((zq46 : gb339 ≠ g)); replace HI0 := zA (IsS170.below zq68 hb); clear hb hbox hg; have hnb71 := NB339_331.out; have hnc71 := NB331_339.out; have hnb72 := NB339_0.out; have hnc72 := NB0_339.out; have hcz73_0 : w70.cell? ⟨gb339, 0, none⟩ = some (.int .i64 0) := (blk_cell BK339.out 0).trans rfl; have hcz73_1 : w70.cell? ⟨gb339, 1, none⟩ = some (.int .i64 0) := (blk_cell BK339.out 1).trans rfl; have hcz73_2 : w70.cell? ⟨gb339, 2, none⟩ = some (.int .i64 0) := (blk_cell BK339.out 2).trans rfl; have hcz73_3 : w70.cell? ⟨gb339, 3, none⟩ = some (.int .i64 0) := (blk_cell BK339.out 3).trans rfl; have hcz73_4 : w70.cell? ⟨gb339, 4, none⟩ = some (.int .i64 0) := (blk_cell BK339.out 4).trans rfl; have hfz73_0 := blk_frozen BK339.out 0; have hfz73_1 := blk_frozen BK339.out 1; have hfz73_2 := blk_frozen BK339.out 2; have hfz73_3 := blk_frozen BK339.out 3; have hfz73_4 := blk_frozen BK339.out 4) | ((with_reducible refine gate_callee (f := 131) rfl ?_); refine goesL_ (some 7) rfl rfl Try.func131 (by kernel_rfl) rfl #[.pointer (some ⟨g, 0, none⟩), .int .i64 12] rfl zq1 ?_; (with_reducible refine (spec_l1Below.calls g s0_0 t337 t338 12 t340 t341 t342 w0 _ ?side1 ?side2 A3.out).mono ?_); (case side1 => repeat (first | (with_reducible first | exact HI0.out | apply IsS170.alloc | apply IsS170.drewN | apply IsS170.drew | apply IsS170.set_1 | apply IsS170.set_2 | refine IsS170.far ?_ NB0_331.out _ | refine IsS170.far ?_ NB0_339.out _) | exact HI0.out)); (case side2 => repeat (first | (with_reducible first | exact HB.out | apply below_alloc | apply pw_below_drewN | apply below_drew1 | refine below_set ?_ (IsS170.ge HI0.out) | refine below_set ?_ GE331.out | refine below_set ?_ GE339.out) | exact HB.out)); rintro e w74 ⟨rfl, hi, hb, hk⟩; refine ⟨_, rfl, ?_⟩; replace BK331 := zA (KeepBut.blk hk (g' := gb331) (o := .cells #[.int .i64 0, .int .i64 0, .int .i64 0, .int .i64 0, .int .i64 0] 39 (0, 0)) zq13 NB331_0.out zq48); replace BK339 := zA (KeepBut.blk hk (g' := gb339) (o := .cells #[.int .i64 t332, .int .i64 t333, .int .i64 t334, .int .i64 t335, .int .i64 t336] 39 (0, 0)) zq7 NB339_0.out zq48); replace HK := zA (KeepBut.trans zq12 hk (.inl rfl)); replace HB := zA (hb); replace HI0 := zA (hi); clear hb hk hi; have hcz75_0 : w74.cell? ⟨gb339, 0, none⟩ = some (.int .i64 t332) := (blk_cell BK339.out 0).trans rfl; have hcz75_1 : w74.cell? ⟨gb339, 1, none⟩ = some (.int .i64 t333) := (blk_cell BK339.out 1).trans rfl; have hcz75_2 : w74.cell? ⟨gb339, 2, none⟩ = some (.int .i64 t334) := (blk_cell BK339.out 2).trans rfl; have hcz75_3 : w74.cell? ⟨gb339, 3, none⟩ = some (.int .i64 t335) := (blk_cell BK339.out 3).trans rfl; have hcz75_4 : w74.cell? ⟨gb339, 4, none⟩ = some (.int .i64 t336) := (blk_cell BK339.out 4).trans rfl; have hfz75_0 := blk_frozen BK339.out 0; have hfz75_1 := blk_frozen BK339.out 1; have hfz75_2 := blk_frozen BK339.out 2; have hfz75_3 := blk_frozen BK339.out 3; have hfz75_4 := blk_frozen BK339.out 4; have hnb76 := NB331_0.out; have hnc76 := NB0_331.out; have hcz77_0 : w74.cell? ⟨gb331, 0, none⟩ = some (.int .i64 0) := (blk_cell BK331.out 0).trans rfl; have hcz77_1 : w74.cell? ⟨gb331, 1, none⟩ = some (.int .i64 0) := (blk_cell BK331.out 1).trans rfl; have hcz77_2 : w74.cell? ⟨gb331, 2, none⟩ = some (.int .i64 0) := (blk_cell BK331.out 2).trans rfl; have hcz77_3 : w74.cell? ⟨gb331, 3, none⟩ = some (.int .i64 0) := (blk_cell BK331.out 3).trans rfl; have hcz77_4 : w74.cell? ⟨gb331, 4, none⟩ = some (.int .i64 0) := (blk_cell BK331.out 4).trans rfl; have hfz77_0 := blk_frozen BK331.out 0; have hfz77_1 := blk_frozen BK331.out 1; have hfz77_2 := blk_frozen BK331.out 2; have hfz77_3 := blk_frozen BK331.out 3; have hfz77_4 := blk_frozen BK331.out 4))
     refine bodyPost_ret (results_cell_row rfl _ _ gb331 39 #[.int .i64 t332, .int .i64 t333, .int .i64 t334, .int .i64 t335, .int .i64 t336] (0, 0) _ rfl (by (with_reducible repeat (first | refine blk_drewN ?_ _ | refine blk_drew ?_ | refine blk_alloc ?_ _)); refine blk_put (cs := #[.int .i64 t332, .int .i64 t333, .int .i64 t334, .int .i64 t335, .int .i64 0]) ?_ 4 _ rfl; (with_reducible repeat (first | refine blk_drewN ?_ _ | refine blk_drew ?_ | refine blk_alloc ?_ _)); refine blk_put (cs := #[.int .i64 t332, .int .i64 t333, .int .i64 t334, .int .i64 0, .int .i64 0]) ?_ 3 _ rfl; (with_reducible repeat (first | refine blk_drewN ?_ _ | refine blk_drew ?_ | refine blk_alloc ?_ _)); refine blk_put (cs := #[.int .i64 t332, .int .i64 t333, .int .i64 0, .int .i64 0, .int .i64 0]) ?_ 2 _ rfl; (with_reducible repeat (first | refine blk_drewN ?_ _ | refine blk_drew ?_ | refine blk_alloc ?_ _)); refine blk_put (cs := #[.int .i64 t332, .int .i64 0, .int .i64 0, .int .i64 0, .int .i64 0]) ?_ 1 _ rfl; (with_reducible repeat (first | refine blk_drewN ?_ _ | refine blk_drew ?_ | refine blk_alloc ?_ _)); refine blk_put (cs := #[.int .i64 0, .int .i64 0, .int .i64 0, .int .i64 0, .int .i64 0]) ?_ 0 _ rfl; (with_reducible repeat (first | refine blk_drewN ?_ _ | refine blk_drew ?_ | refine blk_alloc ?_ _)); exact BK331.out) Try.underlying39 rfl (by kernel_rfl)) rfl ?_
     exact ⟨by first | rfl | (simp [errW_none, errW_some] <;> rfl) | (simp [*, errW_none, errW_some] <;> rfl), by repeat (first | (with_reducible first | exact HI0.out | apply IsS170.alloc | apply IsS170.drewN | apply IsS170.drew | apply IsS170.set_1 | apply IsS170.set_2 | refine IsS170.far ?_ NB0_331.out _ | refine IsS170.far ?_ NB0_339.out _) | exact HI0.out), by repeat (first | (with_reducible first | exact HB.out | apply below_alloc | apply pw_below_drewN | apply below_drew1 | refine below_set ?_ (IsS170.ge HI0.out) | refine below_set ?_ GE331.out | refine below_set ?_ GE339.out) | exact HB.out), by repeat (first | (with_reducible first | exact HK.out | apply KeepBut.set_ | apply keep_drewN | apply keep_drew | apply keep_alloc | refine keep_far ?_ GW331.out _ | refine keep_far ?_ GW339.out _) | exact HK.out)⟩

/-! ### spec_DrawPutVec: function 62 -/
def spec_DrawPutVec.f (k : Nat) (l0 : List Int) : Option (Int × Int × Int × Int × Int) := (spec_l1New.f k l0).bind fun bt368 => ((spec_l7Any.f bt368.1 bt368.2.1 bt368.2.2).bind fun bt372 => (some (bt372.1, bt372.2.1, bt372.2.2.1, bt372.2.2.2.1, bt372.2.2.2.2.1)))
theorem spec_DrawPutVec.mono : ∀ a0 k, LeO (spec_DrawPutVec.f k a0) (spec_DrawPutVec.f (k + 1) a0) := by
 intro a0 k
 unfold spec_DrawPutVec.f
 repeat' first
   | (with_reducible exact spec_l1New.mono _ _)
   | (with_reducible exact LeO.refl _)
   | (with_reducible exact LeO.none _)
   | (with_reducible refine LeO.ite ?_ ?_)
   | (with_reducible refine LeO.bind ?_ (fun _ => ?_))
   | exact spec_l1New.mono _ _
   | exact LeO.none _
   | refine LeO.ite ?_ ?_
   | refine LeO.bind ?_ (fun _ => ?_)
set_option maxHeartbeats 8000000 in
set_option maxRecDepth 100000 in
theorem spec_DrawPutVec.calls (k : Nat) (A0 : Option Addr) (c0 : Nat) (l0 : List Int) (r1 : Int) (r2 : Int) (r3 : Int) (r4 : Int) (r5 : Int) (w : World) (hr0 : Kd.C (Kd.int .u8) w A0 l0.length l0) (hc0 : l0.length ≤ c0) (h : spec_DrawPutVec.f k l0 = some (r1, r2, r3, r4, r5)) :
  Calls Try.prog 62 #[.slice A0 l0.length c0] w fun e w' => e = .returned (.agg #[.int .i64 r1, .int .i64 r2, .int .i64 r3, .int .i64 r4, .int .i64 r5]) ∧ Below w.heap.size w w' := by
 have hu39 := Try.underlying39
 have HR0 := zA hr0
 have HC0 := zA hc0
 clear hr0 hc0
 have HB := zA (Below.refl w.heap.size w)
 have H : ((spec_l1New.f k l0).bind fun bt368 => ((spec_l7Any.f bt368.1 bt368.2.1 bt368.2.2).bind fun bt372 => (some (bt372.1, bt372.2.1, bt372.2.2.1, bt372.2.2.2.1, bt372.2.2.2.2.1)))) = some (r1, r2, r3, r4, r5) := h
 clear h
 obtain ⟨⟨t368, t369, t370⟩, A2, H⟩ := zB H
 try dsimp only at H
 obtain ⟨⟨t372, t373, t374, t375, t376, t377, t378⟩, A3, H⟩ := zB H
 try dsimp only at H
 simp only [Option.some.injEq, Prod.mk.injEq] at H
 obtain ⟨rfl, rfl, rfl, rfl, rfl⟩ := H
 go_enter Try.func62, Try.ntmps62
 go_wp2_with (first | ((with_reducible refine gate_dst (N := 2) rfl ?_); refine box_event ?hg (N := 2) ?hd (cs := #[.int .i64 0, .int .i64 0, .int .i64 0, .int .i64 0, .int .i64 0]) (t := 39) ?hr ?_; (case hd => rfl); (case hg => rfl); (case hr => first | (go_simp; done) | (go_simp; rfl)); intro gb367 hg w4 hbox hb; have BK367 := zA (hbox); have GW367 := zA ((zq3 : w.heap.size ≤ gb367)); have GE367 := zA ((zq3 : w.heap.size ≤ gb367)); replace HB := zA (below_step zq0 hb); clear hb hbox hg) | ((with_reducible refine gate_callee (f := 104) rfl ?_); refine goesL_ (some 5) rfl rfl Try.func104 (by kernel_rfl) rfl #[.slice A0 l0.length c0] rfl zq1 ?_; (with_reducible refine (spec_l1New.calls k _ _ l0 t368 t369 t370 w _ ?side1 ?side2 ?side3 A2.out).mono ?_); (case side1 => repeat (first | (with_reducible first | exact HB.out | apply below_alloc | apply pw_below_drewN | apply below_drew1 | refine below_set ?_ GE367.out) | exact HB.out)); (case side2 => exact HR0.out); (case side3 => exact HC0.out); rintro e w5 ⟨g371, rfl, hi, hb, hb2⟩; refine ⟨_, rfl, ?_⟩; replace HB := zA (hb); have HI371 := zA (hi); have NB371_367 := zA (IsS170.ne_blk hi (blk_below (g := gb367) (o := .cells #[.int .i64 0, .int .i64 0, .int .i64 0, .int .i64 0, .int .i64 0] 39 (0, 0)) zq115 hb2) zq55); have NB367_371 := zA (Ne.symm (IsS170.ne_blk hi (blk_below (g := gb367) (o := .cells #[.int .i64 0, .int .i64 0, .int .i64 0, .int .i64 0, .int .i64 0] 39 (0, 0)) zq115 hb2) zq55)); replace BK367 := zA (blk_below (g := gb367) (o := .cells #[.int .i64 0, .int .i64 0, .int .i64 0, .int .i64 0, .int .i64 0] 39 (0, 0)) zq115 hb2); clear hb hb2 hi) | ((with_reducible refine gate_callee (f := 147) rfl ?_); refine goesL_ (some 7) rfl rfl Try.func147 (by kernel_rfl) rfl #[.pointer (some ⟨g371, 0, none⟩)] rfl zq1 ?_; (with_reducible refine (spec_l7Any.calls g371 t368 t369 t370 t372 t373 t374 t375 t376 t377 t378 w _ ?side1 ?side2 A3.out).mono ?_); (case side1 => repeat (first | (with_reducible first | exact HI371.out | apply IsS170.alloc | apply IsS170.drewN | apply IsS170.drew | apply IsS170.set_1 | apply IsS170.set_2 | refine IsS170.far ?_ NB371_367.out _) | exact HI371.out)); (case side2 => repeat (first | (with_reducible first | exact HB.out | apply below_alloc | apply pw_below_drewN | apply below_drew1 | refine below_set ?_ (IsS170.ge HI371.out) | refine below_set ?_ GE367.out) | exact HB.out)); rintro e w6 ⟨rfl, hi, hb, hk⟩; refine ⟨_, rfl, ?_⟩; replace BK367 := zA (KeepBut.blk hk (g' := gb367) (o := .cells #[.int .i64 0, .int .i64 0, .int .i64 0, .int .i64 0, .int .i64 0] 39 (0, 0)) zq115 NB367_371.out zq48); replace HB := zA (hb); replace HI371 := zA (hi); clear hb hk hi; have hnb7 := NB367_371.out; have hnc7 := NB371_367.out; have hcz8_0 : w6.cell? ⟨gb367, 0, none⟩ = some (.int .i64 0) := (blk_cell BK367.out 0).trans rfl; have hcz8_1 : w6.cell? ⟨gb367, 1, none⟩ = some (.int .i64 0) := (blk_cell BK367.out 1).trans rfl; have hcz8_2 : w6.cell? ⟨gb367, 2, none⟩ = some (.int .i64 0) := (blk_cell BK367.out 2).trans rfl; have hcz8_3 : w6.cell? ⟨gb367, 3, none⟩ = some (.int .i64 0) := (blk_cell BK367.out 3).trans rfl; have hcz8_4 : w6.cell? ⟨gb367, 4, none⟩ = some (.int .i64 0) := (blk_cell BK367.out 4).trans rfl; have hfz8_0 := blk_frozen BK367.out 0; have hfz8_1 := blk_frozen BK367.out 1; have hfz8_2 := blk_frozen BK367.out 2; have hfz8_3 := blk_frozen BK367.out 3; have hfz8_4 := blk_frozen BK367.out 4))
 refine bodyPost_ret (results_cell_row rfl _ _ gb367 39 #[.int .i64 t372, .int .i64 t373, .int .i64 t374, .int .i64 t375, .int .i64 t376] (0, 0) _ rfl (by (with_reducible repeat (first | refine blk_drewN ?_ _ | refine blk_drew ?_ | refine blk_alloc ?_ _)); refine blk_put (cs := #[.int .i64 t372, .int .i64 t373, .int .i64 t374, .int .i64 t375, .int .i64 0]) ?_ 4 _ rfl; (with_reducible repeat (first | refine blk_drewN ?_ _ | refine blk_drew ?_ | refine blk_alloc ?_ _)); refine blk_put (cs := #[.int .i64 t372, .int .i64 t373, .int .i64 t374, .int .i64 0, .int .i64 0]) ?_ 3 _ rfl; (with_reducible repeat (first | refine blk_drewN ?_ _ | refine blk_drew ?_ | refine blk_alloc ?_ _)); refine blk_put (cs := #[.int .i64 t372, .int .i64 t373, .int .i64 0, .int .i64 0, .int .i64 0]) ?_ 2 _ rfl; (with_reducible repeat (first | refine blk_drewN ?_ _ | refine blk_drew ?_ | refine blk_alloc ?_ _)); refine blk_put (cs := #[.int .i64 t372, .int .i64 0, .int .i64 0, .int .i64 0, .int .i64 0]) ?_ 1 _ rfl; (with_reducible repeat (first | refine blk_drewN ?_ _ | refine blk_drew ?_ | refine blk_alloc ?_ _)); refine blk_put (cs := #[.int .i64 0, .int .i64 0, .int .i64 0, .int .i64 0, .int .i64 0]) ?_ 0 _ rfl; (with_reducible repeat (first | refine blk_drewN ?_ _ | refine blk_drew ?_ | refine blk_alloc ?_ _)); exact BK367.out) Try.underlying39 rfl (by kernel_rfl)) rfl ?_
 exact ⟨by first | rfl | (simp [errW_none, errW_some] <;> rfl) | (simp [*, errW_none, errW_some] <;> rfl), by repeat (first | (with_reducible first | exact HB.out | apply below_alloc | apply pw_below_drewN | apply below_drew1 | refine below_set ?_ (IsS170.ge HI371.out) | refine below_set ?_ GE367.out) | exact HB.out)⟩

/-! ### impl_tlv: function 106 -/
def impl_tlv.j0 : Nat → Int → List Int → Bool → Option (List Int × Bool)
 | 0, _, _, _ => none
 | k + 1, x0, x1, x14 => if x14 = true then (some (([] : List Int), false)) else ((some (([(x0) % 256] : List Int) : List Int)).bind fun y380 => (if (x1.length : Int) ≥ 128 then (if y380.length < 140737488355328 then ((some (y380 ++ [129] : List Int)).bind fun y383 => (if y383.length < 140737488355328 then ((some (y383 ++ [((x1.length : Int)) % 256] : List Int)).bind fun y386 => (if y386.length + x1.length < 140737488355328 then (some ((y386 ++ x1), true)) else (none))) else (none))) else (none)) else (if y380.length < 140737488355328 then ((some (y380 ++ [((x1.length : Int)) % 256] : List Int)).bind fun y392 => (if y392.length + x1.length < 140737488355328 then (some ((y392 ++ x1), true)) else (none))) else (none))))
def impl_tlv.f (k : Nat) (a0 : Int) (l1 : List Int) : Option (List Int × Bool) := (impl_in.f a0 0 255).bind fun t379 => (if t379 = true then (impl_tlv.j0 k a0 l1 (decide ((l1.length : Int) > 250))) else (impl_tlv.j0 k a0 l1 true))
theorem impl_tlv.mono_l : ∀ k, (∀ y0 y1 y2, LeO (impl_tlv.j0 k y0 y1 y2) (impl_tlv.j0 (k + 1) y0 y1 y2))
 | 0 => fun _ _ _ r h => by simp [impl_tlv.j0] at h
 | k + 1 => by
  have ih0 := impl_tlv.mono_l k
  ·intro y0 y1 y2
   unfold impl_tlv.j0
   repeat' first
   | (with_reducible exact ih0 _ _ _)
   | (with_reducible exact LeO.refl _)
   | (with_reducible exact LeO.none _)
   | (with_reducible refine LeO.ite ?_ ?_)
   | (with_reducible refine LeO.bind ?_ (fun _ => ?_))
   | exact ih0 _ _ _
   | exact LeO.none _
   | refine LeO.ite ?_ ?_
   | refine LeO.bind ?_ (fun _ => ?_)
theorem impl_tlv.mono : ∀ a0 a1 k, LeO (impl_tlv.f k a0 a1) (impl_tlv.f (k + 1) a0 a1) := by
 intro a0 a1 k
 have ih0 := impl_tlv.mono_l k
 unfold impl_tlv.f
 repeat' first
   | (with_reducible exact ih0 _ _ _)
   | (with_reducible exact LeO.refl _)
   | (with_reducible exact LeO.none _)
   | (with_reducible refine LeO.ite ?_ ?_)
   | (with_reducible refine LeO.bind ?_ (fun _ => ?_))
   | exact ih0 _ _ _
   | exact LeO.none _
   | refine LeO.ite ?_ ?_
   | refine LeO.bind ?_ (fun _ => ?_)
set_option maxHeartbeats 8000000 in
set_option maxRecDepth 100000 in
theorem impl_tlv.calls (k : Nat) (a0 : Int) (A1 : Option Addr) (c1 : Nat) (l1 : List Int) (r1 : List Int) (r2 : Bool) (w : World) (hr1 : Kd.C (Kd.int .u8) w A1 l1.length l1) (hc1 : l1.length ≤ c1) (h : impl_tlv.f k a0 l1 = some (r1, r2)) :
  Calls Try.prog 106 #[.int .i64 a0, .slice A1 l1.length c1] w fun e w' => ∃ v0_ : Value, e = .returned (.tuple #[v0_, .bool r2]) ∧ Kd.R (Kd.int .u8) 5 w' w.heap.size (fun _ => True) v0_ r1 ∧ Below w.heap.size w w' := by
 have HR1 := zA hr1
 have HC1 := zA hc1
 clear hr1 hc1
 have HB := zA (Below.refl w.heap.size w)
 have H : ((impl_in.f a0 0 255).bind fun t379 => (if t379 = true then (impl_tlv.j0 k a0 l1 (decide ((l1.length : Int) > 250))) else (impl_tlv.j0 k a0 l1 true))) = some (r1, r2) := h
 clear h
 have HC3 := zA H
 clear H
 go_enter Try.func106, Try.ntmps106
 go_upto_region 1 with (fail)
 go_cut [14] (fun v14 wc => ∃ (kq : Nat) (x14_2 : Bool), v14 = .bool x14_2 ∧ Aside0 (impl_tlv.j0 kq a0 l1 x14_2 = some (r1, r2)) ∧ Aside0 (kq ≤ k) ∧ Aside0 (Below w.heap.size w wc))
 case first =>
  have H := HC3.out
  clear HC3
  obtain ⟨t379, A4, H⟩ := zB H
  try dsimp only at H
  by_cases c5 : t379 = true
  ·subst c5
   rw [if_pos rfl] at H
   have H' := zA H
   clear H
   go_wp2_with (first | ((with_reducible refine gate_callee (f := 122) rfl ?_); refine goesL_ (some 8) rfl rfl Try.func122 (by kernel_rfl) rfl #[.int .i64 a0, .int .i64 0, .int .i64 255] rfl zq1 ?_; (with_reducible refine (impl_in.calls a0 0 255 true _ A4.out).mono ?_); rintro e w' ⟨rfl, ⟨nd, rfl⟩⟩; refine ⟨_, rfl, ?_⟩))
   go_meet
   case rel => exact ⟨_, (decide ((l1.length : Int) > 250)), zq33, H', ⟨by first | omega | exact Nat.le_refl _⟩, ⟨by repeat (first | (with_reducible first | exact HB.out | apply below_alloc | apply pw_below_drewN | apply below_drew1) | exact HB.out)⟩⟩
  ·replace c5 := Bool.eq_false_iff.mpr c5
   subst c5
   rw [if_neg zF] at H
   have H' := zA H
   clear H
   go_wp2_with (first | ((with_reducible refine gate_callee (f := 122) rfl ?_); refine goesL_ (some 8) rfl rfl Try.func122 (by kernel_rfl) rfl #[.int .i64 a0, .int .i64 0, .int .i64 255] rfl zq1 ?_; (with_reducible refine (impl_in.calls a0 0 255 false _ A4.out).mono ?_); rintro e w' ⟨rfl, ⟨nd, rfl⟩⟩; refine ⟨_, rfl, ?_⟩))
   go_meet
   case rel => exact ⟨_, (true), zq33, H', ⟨by first | omega | exact Nat.le_refl _⟩, ⟨by repeat (first | (with_reducible first | exact HB.out | apply below_alloc | apply pw_below_drewN | apply below_drew1) | exact HB.out)⟩⟩
 case rest =>
  clear HC3
  try clear c1
  try clear p2
  try clear c5
  obtain ⟨kq, x14_2, rfl, HA, HJ2, HB⟩ := hcut
  cases kq with
  | zero => exact absurd HA.out (by simp [impl_tlv.j0])
  | succ kj2 =>
   have H := HA.out
   clear HA
   simp only [impl_tlv.j0] at H
   by_cases c6 : x14_2 = true
   ·subst c6
    rw [if_pos rfl] at H
    simp only [Option.some.injEq, Prod.mk.injEq] at H
    obtain ⟨rfl, rfl⟩ := H
    go_wp2
    go_ret2
    exact ⟨_, by first | rfl | (simp [errW_none, errW_some] <;> rfl) | (simp [*, errW_none, errW_some] <;> rfl), by first | exact Kd.R_nil _ _ _ _ _ | exact Kd.N_nil _ _ _ _ _ | exact Kd.V_nil _ _ _ _ _ | exact Kd.Q_nil _ _ _ _ _ | exact Kd.S_nil _ _ _ _ _, by repeat (first | (with_reducible first | exact HB.out | apply below_alloc | apply pw_below_drewN | apply below_drew1) | exact HB.out)⟩
   ·replace c6 := Bool.eq_false_iff.mpr c6
    subst c6
    rw [if_neg zF] at H
    obtain ⟨y380, hy380⟩ : ∃ y_ : List Int, y_ = (([(a0) % 256] : List Int)) := ⟨_, rfl⟩
    replace H : (if (l1.length : Int) ≥ 128 then (if y380.length < 140737488355328 then ((some (y380 ++ [129] : List Int)).bind fun y383 => (if y383.length < 140737488355328 then ((some (y383 ++ [((l1.length : Int)) % 256] : List Int)).bind fun y386 => (if y386.length + l1.length < 140737488355328 then (some ((y386 ++ l1), true)) else (none))) else (none))) else (none)) else (if y380.length < 140737488355328 then ((some (y380 ++ [((l1.length : Int)) % 256] : List Int)).bind fun y392 => (if y392.length + l1.length < 140737488355328 then (some ((y392 ++ l1), true)) else (none))) else (none))) = some (r1, r2) := by first | (rw [hy380]; with_reducible exact H) | (have H2_ := (Option.bind_some _ _).symm.trans H; rw [hy380]; with_reducible exact H2_) | (have H2_ := (Option.bind_some _ _).symm.trans H; with_reducible exact H2_) | with_reducible exact H | (rw [hy380]; exact H) | exact H
    have Ny380 := zA hy380
    clear hy380
    by_cases c7 : (l1.length : Int) ≥ 128
    ·rw [if_pos c7] at H
     have c7b0 : decide (128 ≤ (l1.length : Int)) = true := decide_eq_true c7
     have c7b1 : decide (128 ≤ l1.length) = true := decide_eq_true zq128
     clear c7
     by_cases c8 : y380.length < 140737488355328
     ·rw [if_pos c8] at H
      have LMc8 := zA c8
      clear c8
      obtain ⟨y383, hy383⟩ : ∃ y_ : List Int, y_ = (y380 ++ [129]) := ⟨_, rfl⟩
      replace H : (if y383.length < 140737488355328 then ((some (y383 ++ [((l1.length : Int)) % 256] : List Int)).bind fun y386 => (if y386.length + l1.length < 140737488355328 then (some ((y386 ++ l1), true)) else (none))) else (none)) = some (r1, r2) := by first | (rw [hy383]; with_reducible exact H) | (have H2_ := (Option.bind_some _ _).symm.trans H; rw [hy383]; with_reducible exact H2_) | (have H2_ := (Option.bind_some _ _).symm.trans H; with_reducible exact H2_) | with_reducible exact H | (rw [hy383]; exact H) | exact H
      have Ny383 := zA hy383
      clear hy383
      by_cases c9 : y383.length < 140737488355328
      ·rw [if_pos c9] at H
       have LMc9 := zA c9
       clear c9
       obtain ⟨y386, hy386⟩ : ∃ y_ : List Int, y_ = (y383 ++ [((l1.length : Int)) % 256]) := ⟨_, rfl⟩
       replace H : (if y386.length + l1.length < 140737488355328 then (some ((y386 ++ l1), true)) else (none)) = some (r1, r2) := by first | (rw [hy386]; with_reducible exact H) | (have H2_ := (Option.bind_some _ _).symm.trans H; rw [hy386]; with_reducible exact H2_) | (have H2_ := (Option.bind_some _ _).symm.trans H; with_reducible exact H2_) | with_reducible exact H | (rw [hy386]; exact H) | exact H
       have Ny386 := zA hy386
       clear hy386
       by_cases c10 : y386.length + l1.length < 140737488355328
       ·rw [if_pos c10] at H
        have LMc10 := zA c10
        clear c10
        obtain ⟨y389, hy389⟩ : ∃ y_ : List Int, y_ = (y386 ++ l1) := ⟨_, rfl⟩
        replace H : (some (y389, true)) = some (r1, r2) := by first | (rw [hy389]; with_reducible exact H) | (have H2_ := (Option.bind_some _ _).symm.trans H; rw [hy389]; with_reducible exact H2_) | (have H2_ := (Option.bind_some _ _).symm.trans H; with_reducible exact H2_) | with_reducible exact H | (rw [hy389]; exact H) | exact H
        have Ny389 := zA hy389
        clear hy389
        simp only [Option.some.injEq, Prod.mk.injEq] at H
        obtain ⟨rfl, rfl⟩ := H
        go_wp2_with (first | ((with_reducible refine gate_dst (N := 17) rfl ?_); (try (refine gate_guard zq121 ?_; dsimp only)); refine Kd.R_lit (Kd.int .u8) _ 5 ?hg (N := 17) ?hd (xs := ([(a0) % 256] : List Int)) (inner := [.int .u8 ((a0) % 256)]) (ok := fun _ => True) (okp := fun _ => True) ?hr ?hp (fun _ hk => hk) trivial (Below.refl _ _) (Nat.le_refl _) zq48 ?_; (case hd => rfl); (case hg => rfl); (case hr => first | (go_simp; done) | (go_simp; rfl)); (case hp => exact (Reps.one (show Kd.M (Kd.int .u8) _ _ _ ((a0) % 256) [.int .u8 ((a0) % 256)] from rfl) (Reps.none _ _))); intro v381 w11 ho12 hb hg_ hnew_; clear hg_ hnew_; (first | rw [← Ny380.out] at ho12 | (simp only [Int.reduceToNat] at ho12; rw [← Ny380.out] at ho12)); have HO382 := zA (Kd.R_lower ho12 (below_size zq0)); replace HB := zA (below_step zq0 hb); clear hb ho12) | ((with_reducible refine gate_builtin (b := .append) (xs := #[.tmp 21, .tmp 22]) rfl ?_); (try (refine gate_guard zq121 ?_; dsimp only)); at_builtin; refine Kd.R_append (Kd.int .u8) (w0 := w) w.heap.size rfl (.tmp 21) (.tmp 22) 22 5 (.int .u8 0) 1 rfl Try.underlying22 info5 rfl zq55 zq128 v381 y380 129 [.int .u8 129] (fun _ => True) (fun _ => False) rfl rfl ?aP (fun _ hk => hk.elim) ?aF ?aO ?aB ?aS ?aL ?_; (case aP => exact rfl); (case aB => exact zq0); (case aF => exact (fun _ _ => trivial)); (case aO => exact zq142); (case aS => exact (below_size zq0)); (case aL => have := LMc8.out; omega); intro v384 w13 ho hb hg hat; rw [← Ny383.out] at ho; replace HB := zA (hb); have HO385 := zA (ho); clear HO382; clear ho hb hg hat) | ((with_reducible refine gate_builtin (b := .append) (xs := #[.tmp 24, .tmp 28]) rfl ?_); (try (refine gate_guard zq121 ?_; dsimp only)); at_builtin; refine Kd.R_append (Kd.int .u8) (w0 := w) w.heap.size rfl (.tmp 24) (.tmp 28) 22 5 (.int .u8 0) 1 rfl Try.underlying22 info5 rfl zq55 zq128 v384 y383 (((l1.length : Int)) % 256) [.int .u8 (((l1.length : Int)) % 256)] (fun _ => True) (fun _ => False) rfl rfl ?aP (fun _ hk => hk.elim) ?aF ?aO ?aB ?aS ?aL ?_; (case aP => exact rfl); (case aB => exact zq0); (case aF => exact (fun _ _ => trivial)); (case aO => exact (by (with_reducible repeat (first | apply Kd.R_alloc | apply Kd.R_drewN | apply Kd.R_drew)); exact HO385.out)); (case aS => exact (below_size zq0)); (case aL => have := LMc9.out; omega); intro v387 w14 ho hb hg hat; rw [← Ny386.out] at ho; replace HB := zA (hb); have HO388 := zA (ho); clear HO385; clear ho hb hg hat) | ((with_reducible refine gate_builtin (b := .append) (xs := #[.tmp 29, .tmp 30]) rfl ?_); (try (refine gate_guard zq121 ?_; dsimp only)); at_builtin; refine Kd.R_append_rows (Kd.int .u8) (w0 := w) w.heap.size rfl (.tmp 29) (.tmp 30) 22 5 (.int .u8 0) 1 rfl Try.underlying22 info5 rfl zq55 zq128 v387 y386 l1 _ _ _ (fun _ => True) (fun _ => False) rfl rfl ?aO ?aR (fun _ _ h => h) (fun _ h => h.elim) ?aF ?aB ?aS ?aL ?_; (case aR => repeat (first | exact (Kd.C_below HR1.out HB.out) | (with_reducible refine Kd.C_alloc ?_ _) | (with_reducible refine Kd.C_drewN ?_ _) | (with_reducible refine Kd.C_drew ?_))); (case aB => exact zq0); (case aF => exact (fun _ _ => trivial)); (case aO => exact (by (with_reducible repeat (first | apply Kd.R_alloc | apply Kd.R_drewN | apply Kd.R_drew)); exact HO388.out)); (case aS => exact (below_size zq0)); (case aL => have := LMc10.out; omega); intro v390 w15 ho hb hg hat; rw [← Ny389.out] at ho; replace HB := zA (hb); have HO391 := zA (ho); clear HO388; clear ho hb hg hat))
        go_ret2
        exact ⟨_, by first | rfl | (simp [errW_none, errW_some] <;> rfl) | (simp [*, errW_none, errW_some] <;> rfl), by (with_reducible repeat (first | apply Kd.R_alloc | apply Kd.R_drewN | apply Kd.R_drew)); exact HO391.out, by repeat (first | (with_reducible first | exact HB.out | apply below_alloc | apply pw_below_drewN | apply below_drew1) | exact HB.out)⟩
       ·rw [if_neg c10] at H
        exact absurd H zq48
      ·rw [if_neg c9] at H
       exact absurd H zq48
     ·rw [if_neg c8] at H
      exact absurd H zq48
    ·rw [if_neg c7] at H
     have c7b0 : decide (128 ≤ (l1.length : Int)) = false := decide_eq_false c7
     have c7b1 : decide (128 ≤ l1.length) = false := decide_eq_false zq128
     clear c7
     by_cases c16 : y380.length < 140737488355328
     ·rw [if_pos c16] at H
      have LMc16 := zA c16
      clear c16
      obtain ⟨y392, hy392⟩ : ∃ y_ : List Int, y_ = (y380 ++ [((l1.length : Int)) % 256]) := ⟨_, rfl⟩
      replace H : (if y392.length + l1.length < 140737488355328 then (some ((y392 ++ l1), true)) else (none)) = some (r1, r2) := by first | (rw [hy392]; with_reducible exact H) | (have H2_ := (Option.bind_some _ _).symm.trans H; rw [hy392]; with_reducible exact H2_) | (have H2_ := (Option.bind_some _ _).symm.trans H; with_reducible exact H2_) | with_reducible exact H | (rw [hy392]; exact H) | exact H
      have Ny392 := zA hy392
      clear hy392
      by_cases c17 : y392.length + l1.length < 140737488355328
      ·rw [if_pos c17] at H
       have LMc17 := zA c17
       clear c17
       obtain ⟨y395, hy395⟩ : ∃ y_ : List Int, y_ = (y392 ++ l1) := ⟨_, rfl⟩
       replace H : (some (y395, true)) = some (r1, r2) := by first | (rw [hy395]; with_reducible exact H) | (have H2_ := (Option.bind_some _ _).symm.trans H; rw [hy395]; with_reducible exact H2_) | (have H2_ := (Option.bind_some _ _).symm.trans H; with_reducible exact H2_) | with_reducible exact H | (rw [hy395]; exact H) | exact H
       have Ny395 := zA hy395
       clear hy395
       simp only [Option.some.injEq, Prod.mk.injEq] at H
       obtain ⟨rfl, rfl⟩ := H
       go_wp2_with (first | ((with_reducible refine gate_dst (N := 17) rfl ?_); (try (refine gate_guard zq121 ?_; dsimp only)); refine Kd.R_lit (Kd.int .u8) _ 5 ?hg (N := 17) ?hd (xs := ([(a0) % 256] : List Int)) (inner := [.int .u8 ((a0) % 256)]) (ok := fun _ => True) (okp := fun _ => True) ?hr ?hp (fun _ hk => hk) trivial (Below.refl _ _) (Nat.le_refl _) zq48 ?_; (case hd => rfl); (case hg => rfl); (case hr => first | (go_simp; done) | (go_simp; rfl)); (case hp => exact (Reps.one (show Kd.M (Kd.int .u8) _ _ _ ((a0) % 256) [.int .u8 ((a0) % 256)] from rfl) (Reps.none _ _))); intro v381 w18 ho19 hb hg_ hnew_; clear hg_ hnew_; (first | rw [← Ny380.out] at ho19 | (simp only [Int.reduceToNat] at ho19; rw [← Ny380.out] at ho19)); have HO382 := zA (Kd.R_lower ho19 (below_size zq0)); replace HB := zA (below_step zq0 hb); clear hb ho19) | ((with_reducible refine gate_builtin (b := .append) (xs := #[.tmp 24, .tmp 28]) rfl ?_); (try (refine gate_guard zq121 ?_; dsimp only)); at_builtin; refine Kd.R_append (Kd.int .u8) (w0 := w) w.heap.size rfl (.tmp 24) (.tmp 28) 22 5 (.int .u8 0) 1 rfl Try.underlying22 info5 rfl zq55 zq128 v381 y380 (((l1.length : Int)) % 256) [.int .u8 (((l1.length : Int)) % 256)] (fun _ => True) (fun _ => False) rfl rfl ?aP (fun _ hk => hk.elim) ?aF ?aO ?aB ?aS ?aL ?_; (case aP => exact rfl); (case aB => exact zq0); (case aF => exact (fun _ _ => trivial)); (case aO => exact zq142); (case aS => exact (below_size zq0)); (case aL => have := LMc16.out; omega); intro v393 w20 ho hb hg hat; rw [← Ny392.out] at ho; replace HB := zA (hb); have HO394 := zA (ho); clear HO382; clear ho hb hg hat) | ((with_reducible refine gate_builtin (b := .append) (xs := #[.tmp 29, .tmp 30]) rfl ?_); (try (refine gate_guard zq121 ?_; dsimp only)); at_builtin; refine Kd.R_append_rows (Kd.int .u8) (w0 := w) w.heap.size rfl (.tmp 29) (.tmp 30) 22 5 (.int .u8 0) 1 rfl Try.underlying22 info5 rfl zq55 zq128 v393 y392 l1 _ _ _ (fun _ => True) (fun _ => False) rfl rfl ?aO ?aR (fun _ _ h => h) (fun _ h => h.elim) ?aF ?aB ?aS ?aL ?_; (case aR => repeat (first | exact (Kd.C_below HR1.out HB.out) | (with_reducible refine Kd.C_alloc ?_ _) | (with_reducible refine Kd.C_drewN ?_ _) | (with_reducible refine Kd.C_drew ?_))); (case aB => exact zq0); (case aF => exact (fun _ _ => trivial)); (case aO => exact (by (with_reducible repeat (first | apply Kd.R_alloc | apply Kd.R_drewN | apply Kd.R_drew)); exact HO394.out)); (case aS => exact (below_size zq0)); (case aL => have := LMc17.out; omega); intro v396 w21 ho hb hg hat; rw [← Ny395.out] at ho; replace HB := zA (hb); have HO397 := zA (ho); clear HO394; clear ho hb hg hat))
       go_ret2
       exact ⟨_, by first | rfl | (simp [errW_none, errW_some] <;> rfl) | (simp [*, errW_none, errW_some] <;> rfl), by (with_reducible repeat (first | apply Kd.R_alloc | apply Kd.R_drewN | apply Kd.R_drew)); exact HO397.out, by repeat (first | (with_reducible first | exact HB.out | apply below_alloc | apply pw_below_drewN | apply below_drew1) | exact HB.out)⟩
      ·rw [if_neg c17] at H
       exact absurd H zq48
     ·rw [if_neg c16] at H
      exact absurd H zq48

/-! ### impl_PutTlv: function 107 -/
def impl_PutTlv.f (k : Nat) (l0 : List Int) (a1 : Int) (l2 : List Int) : Option (List Int) := (impl_tlv.f k a1 l2).bind fun bt398 => ((impl_copyBytes.f l0).bind fun t402 => (if t402.length + bt398.1.length < 140737488355328 then (some (t402 ++ bt398.1)) else (none)))
theorem impl_PutTlv.mono : ∀ a0 a1 a2 k, LeO (impl_PutTlv.f k a0 a1 a2) (impl_PutTlv.f (k + 1) a0 a1 a2) := by
 intro a0 a1 a2 k
 unfold impl_PutTlv.f
 repeat' first
   | (with_reducible exact impl_tlv.mono _ _ _)
   | (with_reducible exact LeO.refl _)
   | (with_reducible exact LeO.none _)
   | (with_reducible refine LeO.ite ?_ ?_)
   | (with_reducible refine LeO.bind ?_ (fun _ => ?_))
   | exact impl_tlv.mono _ _ _
   | exact LeO.none _
   | refine LeO.ite ?_ ?_
   | refine LeO.bind ?_ (fun _ => ?_)
set_option maxHeartbeats 8000000 in
set_option maxRecDepth 100000 in
theorem impl_PutTlv.calls (k : Nat) (A0 : Option Addr) (c0 : Nat) (l0 : List Int) (a1 : Int) (A2 : Option Addr) (c2 : Nat) (l2 : List Int) (r : List Int) (w : World) (hr0 : Kd.C (Kd.int .u8) w A0 l0.length l0) (hc0 : l0.length ≤ c0) (hr2 : Kd.C (Kd.int .u8) w A2 l2.length l2) (hc2 : l2.length ≤ c2) (h : impl_PutTlv.f k l0 a1 l2 = some r) :
  Calls Try.prog 107 #[.slice A0 l0.length c0, .int .i64 a1, .slice A2 l2.length c2] w fun e w' => ∃ v0_ : Value, e = .returned (v0_) ∧ Kd.R (Kd.int .u8) 5 w' w.heap.size (fun _ => True) v0_ r ∧ Below w.heap.size w w' := by
 have HR0 := zA hr0
 have HC0 := zA hc0
 clear hr0 hc0
 have HR2 := zA hr2
 have HC2 := zA hc2
 clear hr2 hc2
 have HB := zA (Below.refl w.heap.size w)
 have H : ((impl_tlv.f k a1 l2).bind fun bt398 => ((impl_copyBytes.f l0).bind fun t402 => (if t402.length + bt398.1.length < 140737488355328 then (some (t402 ++ bt398.1)) else (none)))) = some r := h
 clear h
 obtain ⟨⟨t398, t399⟩, A4, H⟩ := zB H
 try dsimp only at H
 obtain ⟨t402, A5, H⟩ := zB H
 try dsimp only at H
 by_cases c6 : t402.length + t398.length < 140737488355328
 ·rw [if_pos c6] at H
  have LMc6 := zA c6
  clear c6
  obtain ⟨y405, hy405⟩ : ∃ y_ : List Int, y_ = (t402 ++ t398) := ⟨_, rfl⟩
  replace H : (some y405) = some r := by first | (rw [hy405]; with_reducible exact H) | (have H2_ := (Option.bind_some _ _).symm.trans H; rw [hy405]; with_reducible exact H2_) | (have H2_ := (Option.bind_some _ _).symm.trans H; with_reducible exact H2_) | with_reducible exact H | (rw [hy405]; exact H) | exact H
  have Ny405 := zA hy405
  clear hy405
  obtain rfl := Option.some.inj H
  go_enter Try.func107, Try.ntmps107
  go_wp2_with (first | ((with_reducible refine gate_callee (f := 106) rfl ?_); refine goesL_ (some 12) rfl rfl Try.func106 (by kernel_rfl) rfl #[.int .i64 a1, .slice A2 l2.length c2] rfl zq1 ?_; (with_reducible refine (impl_tlv.calls k a1 _ _ l2 t398 t399 _ ?side1 ?side2 A4.out).mono ?_); (case side1 => repeat (first | exact HR2.out | (with_reducible refine Kd.C_alloc ?_ _) | (with_reducible refine Kd.C_drewN ?_ _) | (with_reducible refine Kd.C_drew ?_))); (case side2 => exact HC2.out); rintro e w7 ⟨v400, rfl, ho0, hb⟩; refine ⟨_, rfl, ?_⟩; have HO401 := zA (Kd.R_lower ho0 (below_size zq0)); replace HB := zA (below_step zq0 hb); clear hb ho0) | ((with_reducible refine gate_callee (f := 155) rfl ?_); refine goesL_ (some 16) rfl rfl Try.func155 (by kernel_rfl) rfl #[.slice A0 l0.length c0] rfl zq1 ?_; (with_reducible refine (impl_copyBytes.calls _ _ l0 t402 _ ?side1 ?side2 A5.out).mono ?_); (case side1 => repeat (first | exact (Kd.C_below HR0.out HB.out) | (with_reducible refine Kd.C_alloc ?_ _) | (with_reducible refine Kd.C_drewN ?_ _) | (with_reducible refine Kd.C_drew ?_))); (case side2 => exact HC0.out); rintro e w8 ⟨v403, rfl, ho0, hb⟩; refine ⟨_, rfl, ?_⟩; have HO404 := zA (Kd.R_lower (Kd.R_new' ho0 (Kd.R_lt zq118)) (below_size zq0)); replace HO401 := zA (Kd.R_elder' zq118 (Kd.R_base ho0) hb); replace HB := zA (below_step zq0 hb); clear hb ho0; obtain ⟨Ao10, co10, eo10⟩ := Kd.R_slice HO401.out; subst eo10) | ((with_reducible refine gate_builtin (b := .append) (xs := #[.tmp 16, .tmp 17]) rfl ?_); at_builtin; refine Kd.R_append_rows (Kd.int .u8) (w0 := w) w.heap.size rfl (.tmp 16) (.tmp 17) 22 5 (.int .u8 0) 1 rfl Try.underlying22 info5 rfl zq55 zq128 v403 t402 t398 _ _ _ (fun k_ => some k_ ≠ (.slice Ao10 t398.length co10 : Value).ownBlock) (fun _ => False) rfl rfl ?aO ?aR (fun _ _ h => h) (fun _ h => h.elim) ?aF ?aB ?aS ?aL ?_; (case aR => repeat (first | exact (Kd.R_reads' HO401.out).2.2 | (with_reducible refine Kd.C_alloc ?_ _) | (with_reducible refine Kd.C_drewN ?_ _) | (with_reducible refine Kd.C_drew ?_))); (case aB => exact zq0); (case aF => exact (fun k_ hk => Kd.fresh' (Kd.R_lt zq118) k_ hk)); (case aO => exact (by (with_reducible repeat (first | apply Kd.R_alloc | apply Kd.R_drewN | apply Kd.R_drew)); exact Kd.R_mono HO404.out (fun _ hk => hk.2))); (case aS => exact (below_size zq0)); (case aL => have := LMc6.out; omega); intro v406 w9 ho hb hg hat; rw [← Ny405.out] at ho; replace HO401 := zA (Kd.R_after (ok := (fun _ => True)) zq118 hg hat); replace HB := zA (hb); have HO407 := zA (ho); clear HO404; clear ho hb hg hat))
  go_ret
  exact ⟨_, by first | rfl | (simp [errW_none, errW_some] <;> rfl) | (simp [*, errW_none, errW_some] <;> rfl), by (with_reducible repeat (first | apply Kd.R_alloc | apply Kd.R_drewN | apply Kd.R_drew)); exact Kd.R_mono HO407.out (fun _ hk => trivial), by repeat (first | (with_reducible first | exact HB.out | apply below_alloc | apply pw_below_drewN | apply below_drew1) | exact HB.out)⟩
 ·rw [if_neg c6] at H
  exact absurd H zq48

/-! ### impl_addNum: function 109 -/
def impl_addNum.f (k : Nat) (l0 : List Int) (a1 : Int) (a2 : Int) : Option (List Int) := (impl_PutInt.f k a2).bind fun t408 => ((impl_PutTlv.f k l0 a1 t408).bind fun t411 => (some t411))
theorem impl_addNum.mono : ∀ a0 a1 a2 k, LeO (impl_addNum.f k a0 a1 a2) (impl_addNum.f (k + 1) a0 a1 a2) := by
 intro a0 a1 a2 k
 unfold impl_addNum.f
 repeat' first
   | (with_reducible exact impl_PutInt.mono _ _)
   | (with_reducible exact impl_PutTlv.mono _ _ _ _)
   | (with_reducible exact LeO.refl _)
   | (with_reducible exact LeO.none _)
   | (with_reducible refine LeO.ite ?_ ?_)
   | (with_reducible refine LeO.bind ?_ (fun _ => ?_))
   | exact impl_PutInt.mono _ _
   | exact impl_PutTlv.mono _ _ _ _
   | exact LeO.none _
   | refine LeO.ite ?_ ?_
   | refine LeO.bind ?_ (fun _ => ?_)
set_option maxHeartbeats 8000000 in
set_option maxRecDepth 100000 in
theorem impl_addNum.calls (k : Nat) (A0 : Option Addr) (c0 : Nat) (l0 : List Int) (a1 : Int) (a2 : Int) (r : List Int) (w : World) (hr0 : Kd.C (Kd.int .u8) w A0 l0.length l0) (hc0 : l0.length ≤ c0) (h : impl_addNum.f k l0 a1 a2 = some r) :
  Calls Try.prog 109 #[.slice A0 l0.length c0, .int .i64 a1, .int .i64 a2] w fun e w' => ∃ v0_ : Value, e = .returned (v0_) ∧ Kd.R (Kd.int .u8) 5 w' w.heap.size (fun _ => True) v0_ r ∧ Below w.heap.size w w' := by
 have HR0 := zA hr0
 have HC0 := zA hc0
 clear hr0 hc0
 have HB := zA (Below.refl w.heap.size w)
 have H : ((impl_PutInt.f k a2).bind fun t408 => ((impl_PutTlv.f k l0 a1 t408).bind fun t411 => (some t411))) = some r := h
 clear h
 obtain ⟨t408, A4, H⟩ := zB H
 try dsimp only at H
 obtain ⟨t411, A5, H⟩ := zB H
 try dsimp only at H
 obtain rfl := Option.some.inj H
 go_enter Try.func109, Try.ntmps109
 go_wp2_with (first | ((with_reducible refine gate_callee (f := 156) rfl ?_); refine goesL_ (some 10) rfl rfl Try.func156 (by kernel_rfl) rfl #[.int .i64 a2] rfl zq1 ?_; (with_reducible refine (impl_PutInt.calls k a2 t408 _ A4.out).mono ?_); rintro e w6 ⟨v409, rfl, ho0, hb⟩; refine ⟨_, rfl, ?_⟩; have HO410 := zA (Kd.R_lower ho0 (below_size zq0)); replace HB := zA (below_step zq0 hb); clear hb ho0; obtain ⟨Ao7, co7, eo7⟩ := Kd.R_slice HO410.out; subst eo7) | ((with_reducible refine gate_callee (f := 107) rfl ?_); refine goesL_ (some 11) rfl rfl Try.func107 (by kernel_rfl) rfl #[.slice A0 l0.length c0, .int .i64 a1, .slice Ao7 t408.length co7] rfl zq1 ?_; (with_reducible refine (impl_PutTlv.calls k _ _ l0 a1 _ _ t408 t411 _ ?side1 ?side2 ?side3 ?side4 A5.out).mono ?_); (case side1 => repeat (first | exact (Kd.C_below HR0.out HB.out) | (with_reducible refine Kd.C_alloc ?_ _) | (with_reducible refine Kd.C_drewN ?_ _) | (with_reducible refine Kd.C_drew ?_))); (case side2 => exact HC0.out); (case side3 => repeat (first | exact (Kd.R_reads' HO410.out).2.2 | (with_reducible refine Kd.C_alloc ?_ _) | (with_reducible refine Kd.C_drewN ?_ _) | (with_reducible refine Kd.C_drew ?_))); (case side4 => exact (Kd.R_reads' HO410.out).2.1); rintro e w8 ⟨v412, rfl, ho0, hb⟩; refine ⟨_, rfl, ?_⟩; have HO413 := zA (Kd.R_lower (Kd.R_new' ho0 (Kd.R_lt zq143)) (below_size zq0)); replace HO410 := zA (Kd.R_elder' zq143 (Kd.R_base ho0) hb); replace HB := zA (below_step zq0 hb); clear hb ho0))
 go_ret
 exact ⟨_, by first | rfl | (simp [errW_none, errW_some] <;> rfl) | (simp [*, errW_none, errW_some] <;> rfl), by (with_reducible repeat (first | apply Kd.R_alloc | apply Kd.R_drewN | apply Kd.R_drew)); exact Kd.R_mono HO413.out (fun _ hk => trivial), by repeat (first | (with_reducible first | exact HB.out | apply below_alloc | apply pw_below_drewN | apply below_drew1) | exact HB.out)⟩

/-! ### impl_PutVec: function 63 -/
def impl_PutVec.l0 : Nat → List Int → List Int → Int → Int → Option (List Int)
 | 0, _, _, _, _ => none
 | k + 1, x3, x19, x20, x21 => if x21 < x20 then (if 0 ≤ x21 then (if x21 < (x19.length : Int) then ((impl_addNum.f k x3 2 (rd x19 x21)).bind fun t420 => (impl_PutVec.l0 k t420 x19 x20 (wrap64 (x21 + 1)))) else (none)) else (none)) else (some x3)
def impl_PutVec.f (k : Nat) (a0_0 : Int) (a0_1 : Int) (a0_2 : Int) (a0_3 : Int) (a0_4 : Int) : Option (List Int) := (impl_VecOk.f a0_0 a0_1 a0_2 a0_3 a0_4).bind fun t415 => (if t415 = true then ((some (([a0_0, a0_1, a0_2, a0_3, a0_4] : List Int) : List Int)).bind fun y416 => (impl_PutVec.l0 k ([] : List Int) y416 (y416.length : Int) 0)) else (some ([] : List Int)))
theorem impl_PutVec.mono_l : ∀ k, (∀ y0 y1 y2 y3, LeO (impl_PutVec.l0 k y0 y1 y2 y3) (impl_PutVec.l0 (k + 1) y0 y1 y2 y3))
 | 0 => fun _ _ _ _ r h => by simp [impl_PutVec.l0] at h
 | k + 1 => by
  have ih0 := impl_PutVec.mono_l k
  ·intro y0 y1 y2 y3
   unfold impl_PutVec.l0
   repeat' first
   | (with_reducible exact ih0 _ _ _ _)
   | (with_reducible exact impl_addNum.mono _ _ _ _)
   | (with_reducible exact LeO.refl _)
   | (with_reducible exact LeO.none _)
   | (with_reducible refine LeO.ite ?_ ?_)
   | (with_reducible refine LeO.bind ?_ (fun _ => ?_))
   | exact ih0 _ _ _ _
   | exact impl_addNum.mono _ _ _ _
   | exact LeO.none _
   | refine LeO.ite ?_ ?_
   | refine LeO.bind ?_ (fun _ => ?_)
theorem impl_PutVec.mono : ∀ a0 a1 a2 a3 a4 k, LeO (impl_PutVec.f k a0 a1 a2 a3 a4) (impl_PutVec.f (k + 1) a0 a1 a2 a3 a4) := by
 intro a0 a1 a2 a3 a4 k
 have ih0 := impl_PutVec.mono_l k
 unfold impl_PutVec.f
 repeat' first
   | (with_reducible exact ih0 _ _ _ _)
   | (with_reducible exact impl_addNum.mono _ _ _ _)
   | (with_reducible exact LeO.refl _)
   | (with_reducible exact LeO.none _)
   | (with_reducible refine LeO.ite ?_ ?_)
   | (with_reducible refine LeO.bind ?_ (fun _ => ?_))
   | exact ih0 _ _ _ _
   | exact impl_addNum.mono _ _ _ _
   | exact LeO.none _
   | refine LeO.ite ?_ ?_
   | refine LeO.bind ?_ (fun _ => ?_)
set_option maxHeartbeats 8000000 in
set_option maxRecDepth 100000 in
theorem impl_PutVec.calls (k : Nat) (a0_0 : Int) (a0_1 : Int) (a0_2 : Int) (a0_3 : Int) (a0_4 : Int) (r : List Int) (w : World) (h : impl_PutVec.f k a0_0 a0_1 a0_2 a0_3 a0_4 = some r) :
  Calls Try.prog 63 #[.agg #[.int .i64 a0_0, .int .i64 a0_1, .int .i64 a0_2, .int .i64 a0_3, .int .i64 a0_4]] w fun e w' => ∃ v0_ : Value, e = .returned (v0_) ∧ Kd.R (Kd.int .u8) 5 w' w.heap.size (fun _ => True) v0_ r ∧ Below w.heap.size w w' := by
 have hu39 := Try.underlying39
 have HB := zA (Below.refl w.heap.size w)
 have H : ((impl_VecOk.f a0_0 a0_1 a0_2 a0_3 a0_4).bind fun t415 => (if t415 = true then ((some (([a0_0, a0_1, a0_2, a0_3, a0_4] : List Int) : List Int)).bind fun y416 => (impl_PutVec.l0 k ([] : List Int) y416 (y416.length : Int) 0)) else (some ([] : List Int)))) = some r := h
 clear h
 obtain ⟨t415, A2, H⟩ := zB H
 try dsimp only at H
 by_cases c3 : t415 = true
 ·subst c3
  rw [if_pos rfl] at H
  obtain ⟨y416, hy416⟩ : ∃ y_ : List Int, y_ = (([a0_0, a0_1, a0_2, a0_3, a0_4] : List Int)) := ⟨_, rfl⟩
  replace H : (impl_PutVec.l0 k ([] : List Int) y416 (y416.length : Int) 0) = some r := by first | (rw [hy416]; with_reducible exact H) | (have H2_ := (Option.bind_some _ _).symm.trans H; rw [hy416]; with_reducible exact H2_) | (have H2_ := (Option.bind_some _ _).symm.trans H; with_reducible exact H2_) | with_reducible exact H | (rw [hy416]; exact H) | exact H
  have Ny416 := zA hy416
  clear hy416
  have H' := zA H
  clear H
  go_enter Try.func63, Try.ntmps63
  go_wp2_with (first | ((with_reducible refine gate_dst (N := 1) rfl ?_); refine box_event ?hg (N := 1) ?hd (cs := #[.int .i64 a0_0, .int .i64 a0_1, .int .i64 a0_2, .int .i64 a0_3, .int .i64 a0_4]) (t := 39) ?hr ?_; (case hd => rfl); (case hg => rfl); (case hr => first | (go_simp; done) | (go_simp; rfl)); intro gb414 hg w4 hbox hb; have BK414 := zA (hbox); have GW414 := zA ((zq3 : w.heap.size ≤ gb414)); have GE414 := zA ((zq3 : w.heap.size ≤ gb414)); replace HB := zA (below_step zq0 hb); clear hb hbox hg; have hcz5_0 : w4.cell? ⟨gb414, 0, none⟩ = some (.int .i64 a0_0) := (blk_cell BK414.out 0).trans rfl; have hcz5_1 : w4.cell? ⟨gb414, 1, none⟩ = some (.int .i64 a0_1) := (blk_cell BK414.out 1).trans rfl; have hcz5_2 : w4.cell? ⟨gb414, 2, none⟩ = some (.int .i64 a0_2) := (blk_cell BK414.out 2).trans rfl; have hcz5_3 : w4.cell? ⟨gb414, 3, none⟩ = some (.int .i64 a0_3) := (blk_cell BK414.out 3).trans rfl; have hcz5_4 : w4.cell? ⟨gb414, 4, none⟩ = some (.int .i64 a0_4) := (blk_cell BK414.out 4).trans rfl; have hfz5_0 := blk_frozen BK414.out 0; have hfz5_1 := blk_frozen BK414.out 1; have hfz5_2 := blk_frozen BK414.out 2; have hfz5_3 := blk_frozen BK414.out 3; have hfz5_4 := blk_frozen BK414.out 4) | ((with_reducible refine gate_callee (f := 65) rfl ?_); refine goesL_ (some 7) rfl rfl Try.func65 (by kernel_rfl) rfl #[.agg #[.int .i64 a0_0, .int .i64 a0_1, .int .i64 a0_2, .int .i64 a0_3, .int .i64 a0_4]] rfl zq1 ?_; (with_reducible refine (impl_VecOk.calls a0_0 a0_1 a0_2 a0_3 a0_4 true _ A2.out).mono ?_); rintro e w6 ⟨rfl, hb⟩; refine ⟨_, rfl, ?_⟩; replace BK414 := zA (blk_below (g := gb414) (o := .cells #[.int .i64 a0_0, .int .i64 a0_1, .int .i64 a0_2, .int .i64 a0_3, .int .i64 a0_4] 39 (0, 0)) zq116 hb); replace HB := zA (below_step zq74 hb); clear hb; have hcz7_0 : w6.cell? ⟨gb414, 0, none⟩ = some (.int .i64 a0_0) := (blk_cell BK414.out 0).trans rfl; have hcz7_1 : w6.cell? ⟨gb414, 1, none⟩ = some (.int .i64 a0_1) := (blk_cell BK414.out 1).trans rfl; have hcz7_2 : w6.cell? ⟨gb414, 2, none⟩ = some (.int .i64 a0_2) := (blk_cell BK414.out 2).trans rfl; have hcz7_3 : w6.cell? ⟨gb414, 3, none⟩ = some (.int .i64 a0_3) := (blk_cell BK414.out 3).trans rfl; have hcz7_4 : w6.cell? ⟨gb414, 4, none⟩ = some (.int .i64 a0_4) := (blk_cell BK414.out 4).trans rfl; have hfz7_0 := blk_frozen BK414.out 0; have hfz7_1 := blk_frozen BK414.out 1; have hfz7_2 := blk_frozen BK414.out 2; have hfz7_3 := blk_frozen BK414.out 3; have hfz7_4 := blk_frozen BK414.out 4) | ((with_reducible refine gate_dst (N := 19) rfl ?_); refine Kd.R_lit (Kd.int .i64) _ 3 ?hg (N := 19) ?hd (xs := ([a0_0, a0_1, a0_2, a0_3, a0_4] : List Int)) (inner := [.int .i64 a0_0, .int .i64 a0_1, .int .i64 a0_2, .int .i64 a0_3, .int .i64 a0_4]) (ok := fun _ => True) (okp := fun _ => True) ?hr ?hp (fun _ hk => hk) trivial (Below.refl _ _) (Nat.le_refl _) zq48 ?_; (case hd => rfl); (case hg => rfl); (case hr => first | (go_simp; done) | (go_simp; rfl)); (case hp => exact (Reps.one (show Kd.M (Kd.int .i64) _ _ _ a0_0 [.int .i64 a0_0] from rfl) (Reps.one (show Kd.M (Kd.int .i64) _ _ _ a0_1 [.int .i64 a0_1] from rfl) (Reps.one (show Kd.M (Kd.int .i64) _ _ _ a0_2 [.int .i64 a0_2] from rfl) (Reps.one (show Kd.M (Kd.int .i64) _ _ _ a0_3 [.int .i64 a0_3] from rfl) (Reps.one (show Kd.M (Kd.int .i64) _ _ _ a0_4 [.int .i64 a0_4] from rfl) (Reps.none _ _))))))); intro v417 w8 ho9 hb hg_ hnew_; clear hg_ hnew_; (first | rw [← Ny416.out] at ho9 | (simp only [Int.reduceToNat] at ho9; rw [← Ny416.out] at ho9)); have HO418 := zA (Kd.R_lower ho9 (below_size zq74)); replace BK414 := zA (blk_below (g := gb414) (o := .cells #[.int .i64 a0_0, .int .i64 a0_1, .int .i64 a0_2, .int .i64 a0_3, .int .i64 a0_4] 39 (0, 0)) zq116 hb); replace HB := zA (below_step zq74 hb); clear hb ho9; obtain ⟨Ao10, co10, eo10⟩ := Kd.R_slice HO418.out; subst eo10))
  go_loopg [3, 21] k (fun kq v3 v21 w' => ∃ (x3_1 : List Int) (x21_1 : Int), v21 = .int .i64 x21_1 ∧ Aside0 (impl_PutVec.l0 kq x3_1 y416 (y416.length : Int) x21_1 = some r) ∧ Aside0 (kq ≤ k) ∧ Aside0 (Kd.R (Kd.int .u8) 5 w' w.heap.size (fun _ => True) v3 x3_1) ∧ Aside0 (Kd.R (Kd.int .i64) 3 w' w.heap.size (fun _ => True) (.slice Ao10 y416.length co10) y416) ∧ Aside0 (w'.heap[gb414]? = some (.cells #[.int .i64 a0_0, .int .i64 a0_1, .int .i64 a0_2, .int .i64 a0_3, .int .i64 a0_4] 39 (0, 0))) ∧ Aside0 (Below w.heap.size w w'))
  case atStart => exact ⟨(([] : List Int)), (0), zq33, H', ⟨Nat.le_refl _⟩, ⟨by first | exact Kd.R_nil _ _ _ _ _ | exact Kd.N_nil _ _ _ _ _ | exact Kd.V_nil _ _ _ _ _ | exact Kd.Q_nil _ _ _ _ _ | exact Kd.S_nil _ _ _ _ _⟩, ⟨by (with_reducible repeat (first | apply Kd.R_alloc | apply Kd.R_drewN | apply Kd.R_drew)); exact HO418.out⟩, ⟨by (with_reducible repeat (first | refine blk_drewN ?_ _ | refine blk_drew ?_ | refine blk_alloc ?_ _)); exact BK414.out⟩, ⟨by repeat (first | (with_reducible first | exact HB.out | apply below_alloc | apply pw_below_drewN | apply below_drew1 | refine below_set ?_ GE414.out) | exact HB.out)⟩⟩
  case round =>
   clear H'
   try clear p2
   try clear c3
   try clear c6
   try clear hcz5_0
   try clear hcz5_1
   try clear hcz5_2
   try clear hcz5_3
   try clear hcz5_4
   try clear hcz7_0
   try clear hcz7_1
   try clear hcz7_2
   try clear hcz7_3
   try clear hcz7_4
   try clear hfz5_0
   try clear hfz5_1
   try clear hfz5_2
   try clear hfz5_3
   try clear hfz5_4
   try clear hfz7_0
   try clear hfz7_1
   try clear hfz7_2
   try clear hfz7_3
   try clear hfz7_4
   obtain ⟨x3_1, x21_1, rfl, HA, HK1, HO_3, HO_19, BK414, HB⟩ := hrel
   cases gk with
   | zero => exact absurd HA.out (by simp [impl_PutVec.l0])
   | succ k1 =>
    have H := HA.out
    clear HA
    simp only [impl_PutVec.l0] at H
    by_cases c11 : x21_1 < (y416.length : Int)
    ·rw [if_pos c11] at H
     have c11b0 : decide (x21_1 < (y416.length : Int)) = true := decide_eq_true c11
     clear c11
     by_cases c12 : 0 ≤ x21_1
     ·rw [if_pos c12] at H
      have c12b0 : decide (0 ≤ x21_1) = true := decide_eq_true c12
      clear c12
      by_cases c13 : x21_1 < (y416.length : Int)
      ·rw [if_pos c13] at H
       have c13b0 : decide (x21_1 < (y416.length : Int)) = true := decide_eq_true c13
       clear c13
       obtain ⟨t420, A14, H⟩ := zB H
       try dsimp only at H
       have H' := zA H
       clear H
       have p419 : 0 ≤ (x21_1 : Int) := of_decide_eq_true zq4
       have q419 : x21_1 < (y416.length : Int) := of_decide_eq_true zq4
       obtain ⟨ad419, e419, hx419_0⟩ := Kd.at_int (Kd.R_reads' HO_19.out).2.2 x21_1 p419 q419
       cases e419
       replace p419 := eq_true p419
       replace q419 := eq_true q419
       obtain ⟨Ao15, co15, eo15⟩ := Kd.R_slice HO_3.out
       subst eo15
       go_wp2_with (first | ((with_reducible refine gate_callee (f := 109) rfl ?_); refine goesL_ (some 27) rfl rfl Try.func109 (by kernel_rfl) rfl #[.slice Ao15 x3_1.length co15, .int .i64 2, .int .i64 (rd y416 x21_1)] rfl zq1 ?_; (with_reducible refine (impl_addNum.calls k1 _ _ x3_1 2 (rd y416 x21_1) t420 _ ?side1 ?side2 A14.out).mono ?_); (case side1 => repeat (first | exact (Kd.R_reads' HO_3.out).2.2 | (with_reducible refine Kd.C_alloc ?_ _) | (with_reducible refine Kd.C_drewN ?_ _) | (with_reducible refine Kd.C_drew ?_))); (case side2 => exact (Kd.R_reads' HO_3.out).2.1); rintro e w16 ⟨v421, rfl, ho0, hb⟩; refine ⟨_, rfl, ?_⟩; replace HO_19 := zA (Kd.R_below (by (with_reducible repeat (first | apply Kd.R_alloc | apply Kd.R_drewN | apply Kd.R_drew)); exact HO_19.out) hb); have HO422 := zA (Kd.R_lower (Kd.R_new' ho0 (Kd.R_lt zq63)) (below_size zq74)); replace HO_3 := zA (Kd.R_elder' zq63 (Kd.R_base ho0) hb); replace BK414 := zA (blk_below (g := gb414) (o := .cells #[.int .i64 a0_0, .int .i64 a0_1, .int .i64 a0_2, .int .i64 a0_3, .int .i64 a0_4] 39 (0, 0)) zq116 hb); replace HB := zA (below_step zq74 hb); clear hb ho0))
       go_roundg k1
       case measure => have := HK1.out; omega
       case rel => exact ⟨(t420), (wrap64 (x21_1 + 1)), zq33, H', ⟨by have := HK1.out; omega⟩, ⟨by (with_reducible repeat (first | apply Kd.R_alloc | apply Kd.R_drewN | apply Kd.R_drew)); exact Kd.R_mono HO422.out (fun _ hk => trivial)⟩, ⟨by (with_reducible repeat (first | apply Kd.R_alloc | apply Kd.R_drewN | apply Kd.R_drew)); exact HO_19.out⟩, ⟨by (with_reducible repeat (first | refine blk_drewN ?_ _ | refine blk_drew ?_ | refine blk_alloc ?_ _)); exact BK414.out⟩, ⟨by repeat (first | (with_reducible first | exact HB.out | apply below_alloc | apply pw_below_drewN | apply below_drew1 | refine below_set ?_ GE414.out) | exact HB.out)⟩⟩
      ·rw [if_neg c13] at H
       exact absurd H zq48
     ·rw [if_neg c12] at H
      exact absurd H zq48
    ·rw [if_neg c11] at H
     have c11b0 : decide (x21_1 < (y416.length : Int)) = false := decide_eq_false c11
     clear c11
     obtain rfl := Option.some.inj H
     go_wp2
     go_ret
     exact ⟨_, by first | rfl | (simp [errW_none, errW_some] <;> rfl) | (simp [*, errW_none, errW_some] <;> rfl), by (with_reducible repeat (first | apply Kd.R_alloc | apply Kd.R_drewN | apply Kd.R_drew)); exact HO_3.out, by repeat (first | (with_reducible first | exact HB.out | apply below_alloc | apply pw_below_drewN | apply below_drew1 | refine below_set ?_ GE414.out) | exact HB.out)⟩
 ·replace c3 := Bool.eq_false_iff.mpr c3
  subst c3
  rw [if_neg zF] at H
  obtain rfl := Option.some.inj H
  go_enter Try.func63, Try.ntmps63
  go_wp2_with (first | ((with_reducible refine gate_dst (N := 1) rfl ?_); refine box_event ?hg (N := 1) ?hd (cs := #[.int .i64 a0_0, .int .i64 a0_1, .int .i64 a0_2, .int .i64 a0_3, .int .i64 a0_4]) (t := 39) ?hr ?_; (case hd => rfl); (case hg => rfl); (case hr => first | (go_simp; done) | (go_simp; rfl)); intro gb414 hg w17 hbox hb; have BK414 := zA (hbox); have GW414 := zA ((zq3 : w.heap.size ≤ gb414)); have GE414 := zA ((zq3 : w.heap.size ≤ gb414)); replace HB := zA (below_step zq0 hb); clear hb hbox hg; have hcz18_0 : w17.cell? ⟨gb414, 0, none⟩ = some (.int .i64 a0_0) := (blk_cell BK414.out 0).trans rfl; have hcz18_1 : w17.cell? ⟨gb414, 1, none⟩ = some (.int .i64 a0_1) := (blk_cell BK414.out 1).trans rfl; have hcz18_2 : w17.cell? ⟨gb414, 2, none⟩ = some (.int .i64 a0_2) := (blk_cell BK414.out 2).trans rfl; have hcz18_3 : w17.cell? ⟨gb414, 3, none⟩ = some (.int .i64 a0_3) := (blk_cell BK414.out 3).trans rfl; have hcz18_4 : w17.cell? ⟨gb414, 4, none⟩ = some (.int .i64 a0_4) := (blk_cell BK414.out 4).trans rfl; have hfz18_0 := blk_frozen BK414.out 0; have hfz18_1 := blk_frozen BK414.out 1; have hfz18_2 := blk_frozen BK414.out 2; have hfz18_3 := blk_frozen BK414.out 3; have hfz18_4 := blk_frozen BK414.out 4) | ((with_reducible refine gate_callee (f := 65) rfl ?_); refine goesL_ (some 7) rfl rfl Try.func65 (by kernel_rfl) rfl #[.agg #[.int .i64 a0_0, .int .i64 a0_1, .int .i64 a0_2, .int .i64 a0_3, .int .i64 a0_4]] rfl zq1 ?_; (with_reducible refine (impl_VecOk.calls a0_0 a0_1 a0_2 a0_3 a0_4 false _ A2.out).mono ?_); rintro e w19 ⟨rfl, hb⟩; refine ⟨_, rfl, ?_⟩; replace BK414 := zA (blk_below (g := gb414) (o := .cells #[.int .i64 a0_0, .int .i64 a0_1, .int .i64 a0_2, .int .i64 a0_3, .int .i64 a0_4] 39 (0, 0)) zq116 hb); replace HB := zA (below_step zq74 hb); clear hb))
  go_ret
  exact ⟨_, by first | rfl | (simp [errW_none, errW_some] <;> rfl) | (simp [*, errW_none, errW_some] <;> rfl), by first | exact Kd.R_nil _ _ _ _ _ | exact Kd.N_nil _ _ _ _ _ | exact Kd.V_nil _ _ _ _ _ | exact Kd.Q_nil _ _ _ _ _ | exact Kd.S_nil _ _ _ _ _, by repeat (first | (with_reducible first | exact HB.out | apply below_alloc | apply pw_below_drewN | apply below_drew1 | refine below_set ?_ GE414.out) | exact HB.out)⟩

end Go.Proofs.Ytkcgghgkmgbphaa.PFnVecs
