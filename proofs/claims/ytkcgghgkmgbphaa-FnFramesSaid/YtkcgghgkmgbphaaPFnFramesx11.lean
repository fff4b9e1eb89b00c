-- WRITTEN BY a turned copy of the kit's printer (wip/patch_print.py), for this claim
import Derived.Test.YtkcgghgkmgbphaaPFnFramesx0
import Derived.Test.YtkcgghgkmgbphaaPFnFramesx10
namespace Go.Proofs.Ytkcgghgkmgbphaa.PFnFrames
open Go.RowKit Go.Proofs.YtkcgghgkmgbphaaW.PrintWords Go.Proofs.YtkcgghgkmgbphaaW.PrintLast Go.Proofs.YtkcgghgkmgbphaaW.PrintMore
attribute [local go_sem] max2_int min2_int max_two min_two max_three min_three max_four min_four   -- for this text's walks alone
set_option linter.unusedVariables false
set_option linter.unusedSimpArgs false

attribute [local go_sem] cell_setCell_m
/-! ### spec_l1Below: function 131 -/
def spec_l1Below.f (s0_0 : List Int) (s0_1 : Int) (s0_2 : Int) (a1 : Int) : Option (Int × Int × Int) := if a1 ≤ 0 then (some (0, s0_1, s0_2)) else (if a1 ≤ 256 then ((spec_l1Byte.f s0_0 s0_1 s0_2).bind fun bt348 => (if a1 = 0 then (none) else (some (Int.tmod bt348.1 a1, bt348.2.1, bt348.2.2)))) else ((spec_l1Byte.f s0_0 s0_1 s0_2).bind fun bt351 => ((spec_l1Byte.f s0_0 bt351.2.1 bt351.2.2).bind fun bt354 => ((spec_l1Byte.f s0_0 bt354.2.1 bt354.2.2).bind fun bt357 => (if a1 = 0 then (none) else (some (Int.tmod (wrap64 ((wrap64 ((wrap64 (bt351.1 * 65536)) + (wrap64 (bt354.1 * 256)))) + bt357.1)) a1, bt357.2.1, bt357.2.2)))))))
set_option maxHeartbeats 8000000 in
set_option maxRecDepth 100000 in
theorem spec_l1Below.calls (g : Nat) (s0_0 : List Int) (s0_1 : Int) (s0_2 : Int) (a1 : Int) (r1 : Int) (r2 : Int) (r3 : Int) (w0 w : World) (hI : IsS170 w0 w g s0_0 s0_1 s0_2) (hB : Below w0.heap.size w0 w) (h : spec_l1Below.f s0_0 s0_1 s0_2 a1 = some (r1, r2, r3)) :
  Calls Try.prog 131 #[.pointer (some ⟨g, 0, none⟩), .int .i64 a1] w fun e w' => e = .returned (.int .i64 r1) ∧ IsS170 w0 w' g s0_0 r2 r3 ∧ Below w0.heap.size w0 w' ∧ KeepBut w w' g none := by
 have HI0 := zA hI
 have HK := zA (KeepBut.refl w g none)
 have HL := zA hB.size
 clear hI
 have HW0 := zA hB.size
 have HB := zA hB
 clear hB
 unfold spec_l1Below.f at h
 have H := h
 clear h
 have HC3 := zA H
 clear H
 go_enter Try.func131, Try.ntmps131
 go_upto_region 0 with (fail)
 have H := HC3.out
 clear HC3
 have HC4 := zA H
 clear H
 go_upto_region 1 with (fail)
 have H := HC4.out
 clear HC4
 by_cases c5 : a1 ≤ 0
 ·rw [if_pos c5] at H
  have c5b0 : decide (a1 ≤ 0) = true := decide_eq_true c5
  clear c5
  have HC6 := zA H
  clear H
  go_upto_region 2 with (fail)
  have H := HC6.out
  clear HC6
  simp only [Option.some.injEq, Prod.mk.injEq] at H
  obtain ⟨rfl, rfl, rfl⟩ := H
  go_wp2
  go_ret
  exact ⟨zq5, zq13, zq12, zq3⟩
 ·rw [if_neg c5] at H
  have c5b0 : decide (a1 ≤ 0) = false := decide_eq_false c5
  clear c5
  have HC7 := zA H
  clear H
  go_upto_region 3 with (fail)
  have H := HC7.out
  clear HC7
  by_cases c8 : a1 ≤ 256
  ·rw [if_pos c8] at H
   have c8b0 : decide (a1 ≤ 256) = true := decide_eq_true c8
   clear c8
   have HC9 := zA H
   clear H
   go_upto_region 4 with (fail)
   have H := HC9.out
   clear HC9
   obtain ⟨⟨t348, t349, t350⟩, A10, H⟩ := zB H
   try dsimp only at H
   obtain ⟨c11, H⟩ := zM H
   have c11b0 : (a1 == 0) = false := beq_eq_false_iff_ne.mpr c11
   have c11b1 : (a1 != 0) = true := bne_iff_ne.mpr c11
   simp only [Option.some.injEq, Prod.mk.injEq] at H
   obtain ⟨rfl, rfl, rfl⟩ := H
   go_wp2_with (first | ((with_reducible refine gate_callee (f := 184) rfl ?_); refine goesL_ (some 13) rfl rfl Try.func184 (by kernel_rfl) rfl #[.pointer (some ⟨g, 0, none⟩)] rfl zq1 ?_; (with_reducible refine (spec_l1Byte.calls g s0_0 s0_1 s0_2 t348 t349 t350 w0 _ ?side1 ?side2 A10.out).mono ?_); (case side1 => repeat (first | (with_reducible first | exact HI0.out | apply IsS170.alloc | apply IsS170.drewN | apply IsS170.drew | apply IsS170.set_1 | apply IsS170.set_2) | exact HI0.out)); (case side2 => repeat (first | (with_reducible first | exact HB.out | apply below_alloc | apply pw_below_drewN | apply below_drew1 | refine below_set ?_ (IsS170.ge HI0.out)) | exact HB.out)); rintro e w12 ⟨rfl, hi, hb, hk⟩; refine ⟨_, rfl, ?_⟩; replace HK := zA (KeepBut.trans zq3 hk (.inl rfl)); replace HB := zA (hb); replace HI0 := zA (hi); clear hb hk hi))
   go_ret
   exact ⟨zq5, zq13, zq12, zq3⟩
  ·rw [if_neg c8] at H
   have c8b0 : decide (a1 ≤ 256) = false := decide_eq_false c8
   clear c8
   have HC13 := zA H
   clear H
   go_upto_region 5 with (fail)
   have H := HC13.out
   clear HC13
   obtain ⟨⟨t351, t352, t353⟩, A14, H⟩ := zB H
   try dsimp only at H
   have HC15 := zA H
   clear H
   go_upto_region 6 with (first | ((with_reducible refine gate_callee (f := 184) rfl ?_); refine goesL_ (some 17) rfl rfl Try.func184 (by kernel_rfl) rfl #[.pointer (some ⟨g, 0, none⟩)] rfl zq1 ?_; (with_reducible refine (spec_l1Byte.calls g s0_0 s0_1 s0_2 t351 t352 t353 w0 _ ?side1 ?side2 A14.out).mono ?_); (case side1 => repeat (first | (with_reducible first | exact HI0.out | apply IsS170.alloc | apply IsS170.drewN | apply IsS170.drew | apply IsS170.set_1 | apply IsS170.set_2) | exact HI0.out)); (case side2 => repeat (first | (with_reducible first | exact HB.out | apply below_alloc | apply pw_below_drewN | apply below_drew1 | refine below_set ?_ (IsS170.ge HI0.out)) | exact HB.out)); rintro e w16 ⟨rfl, hi, hb, hk⟩; refine ⟨_, rfl, ?_⟩; replace HK := zA (KeepBut.trans zq3 hk (.inl rfl)); replace HB := zA (hb); replace HI0 := zA (hi); clear hb hk hi))
   (try simp only [Act.put, List.setIfInBounds_toArray, List.set_cons_zero, List.set_cons_succ])
   have H := HC15.out
   clear HC15
   obtain ⟨⟨t354, t355, t356⟩, A17, H⟩ := zB H
   try dsimp only at H
   have HC18 := zA H
   clear H
   go_upto_region 7 with (first | ((with_reducible refine gate_callee (f := 184) rfl ?_); refine goesL_ (some 19) rfl rfl Try.func184 (by kernel_rfl) rfl #[.pointer (some ⟨g, 0, none⟩)] rfl zq1 ?_; (with_reducible refine (spec_l1Byte.calls g s0_0 t352 t353 t354 t355 t356 w0 _ ?side1 ?side2 A17.out).mono ?_); (case side1 => repeat (first | (with_reducible first | exact HI0.out | apply IsS170.alloc | apply IsS170.drewN | apply IsS170.drew | apply IsS170.set_1 | apply IsS170.set_2) | exact HI0.out)); (case side2 => repeat (first | (with_reducible first | exact HB.out | apply below_alloc | apply pw_below_drewN | apply below_drew1 | refine below_set ?_ (IsS170.ge HI0.out)) | exact HB.out)); rintro e w19 ⟨rfl, hi, hb, hk⟩; refine ⟨_, rfl, ?_⟩; replace HK := zA (KeepBut.trans zq3 hk (.inl rfl)); replace HB := zA (hb); replace HI0 := zA (hi); clear hb hk hi))
   (try simp only [Act.put, List.setIfInBounds_toArray, List.set_cons_zero, List.set_cons_succ])
   have H := HC18.out
   clear HC18
   obtain ⟨⟨t357, t358, t359⟩, A20, H⟩ := zB H
   try dsimp only at H
   have HC21 := zA H
   clear H
   go_upto_region 8 with (first | ((with_reducible refine gate_callee (f := 184) rfl ?_); refine goesL_ (some 21) rfl rfl Try.func184 (by kernel_rfl) rfl #[.pointer (some ⟨g, 0, none⟩)] rfl zq1 ?_; (with_reducible refine (spec_l1Byte.calls g s0_0 t355 t356 t357 t358 t359 w0 _ ?side1 ?side2 A20.out).mono ?_); (case side1 => repeat (first | (with_reducible first | exact HI0.out | apply IsS170.alloc | apply IsS170.drewN | apply IsS170.drew | apply IsS170.set_1 | apply IsS170.set_2) | exact HI0.out)); (case side2 => repeat (first | (with_reducible first | exact HB.out | apply below_alloc | apply pw_below_drewN | apply below_drew1 | refine below_set ?_ (IsS170.ge HI0.out)) | exact HB.out)); rintro e w22 ⟨rfl, hi, hb, hk⟩; refine ⟨_, rfl, ?_⟩; replace HK := zA (KeepBut.trans zq3 hk (.inl rfl)); replace HB := zA (hb); replace HI0 := zA (hi); clear hb hk hi))
   (try simp only [Act.put, List.setIfInBounds_toArray, List.set_cons_zero, List.set_cons_succ])
   have H := HC21.out
   clear HC21
   obtain ⟨c23, H⟩ := zM H
   have c23b0 : (a1 == 0) = false := beq_eq_false_iff_ne.mpr c23
   have c23b1 : (a1 != 0) = true := bne_iff_ne.mpr c23
   simp only [Option.some.injEq, Prod.mk.injEq] at H
   obtain ⟨rfl, rfl, rfl⟩ := H
   go_wp2
   go_ret
   exact ⟨zq5, zq13, zq12, zq3⟩

/-! ### spec_l1Int: function 140 -/
def spec_l1Int.f (s0_0 : List Int) (s0_1 : Int) (s0_2 : Int) (l1 : List Int) : Option (Int × Int × Int) := (spec_l1Below.f s0_0 s0_1 s0_2 (l1.length : Int)).bind fun bt360 => (if 0 ≤ bt360.1 then (if bt360.1 < (l1.length : Int) then (some (rd l1 bt360.1, bt360.2.1, bt360.2.2)) else (none)) else (none))
set_option maxHeartbeats 8000000 in
set_option maxRecDepth 100000 in
theorem spec_l1Int.calls (g : Nat) (s0_0 : List Int) (s0_1 : Int) (s0_2 : Int) (A1 : Option Addr) (c1 : Nat) (l1 : List Int) (r1 : Int) (r2 : Int) (r3 : Int) (w0 w : World) (hI : IsS170 w0 w g s0_0 s0_1 s0_2) (hB : Below w0.heap.size w0 w) (hr1 : Kd.C (Kd.int .i64) w A1 l1.length l1) (hc1 : l1.length ≤ c1) (hf1 : ∀ ad, A1 = some ad → 0 < l1.length → ad.block ≠ g) (h : spec_l1Int.f s0_0 s0_1 s0_2 l1 = some (r1, r2, r3)) :
  Calls Try.prog 140 #[.pointer (some ⟨g, 0, none⟩), .slice A1 l1.length c1] w fun e w' => e = .returned (.int .i64 r1) ∧ IsS170 w0 w' g s0_0 r2 r3 ∧ Below w0.heap.size w0 w' ∧ KeepBut w w' g none := by
 have HR1 := zA hr1
 have HC1 := zA hc1
 clear hr1 hc1
 have HI0 := zA hI
 have HK := zA (KeepBut.refl w g none)
 have HL := zA hB.size
 clear hI
 have HW0 := zA hB.size
 have HB := zA hB
 clear hB
 unfold spec_l1Int.f at h
 have H := h
 clear h
 have HC3 := zA H
 clear H
 go_enter Try.func140, Try.ntmps140
 go_upto_region 0 with (fail)
 have H := HC3.out
 clear HC3
 have HC4 := zA H
 clear H
 go_upto_region 1 with (fail)
 have H := HC4.out
 clear HC4
 obtain ⟨⟨t360, t361, t362⟩, A5, H⟩ := zB H
 try dsimp only at H
 obtain ⟨c6, H⟩ := zN H
 have c6b0 : decide (0 ≤ t360) = true := decide_eq_true c6
 clear c6
 obtain ⟨c7, H⟩ := zN H
 have c7b0 : decide (t360 < (l1.length : Int)) = true := decide_eq_true c7
 clear c7
 simp only [Option.some.injEq, Prod.mk.injEq] at H
 obtain ⟨rfl, rfl, rfl⟩ := H
 go_wp2_with (first | ((with_reducible refine gate_callee (f := 131) rfl ?_); refine goesL_ (some 9) rfl rfl Try.func131 (by kernel_rfl) rfl #[.pointer (some ⟨g, 0, none⟩), .int .i64 (l1.length : Int)] rfl zq1 ?_; (with_reducible refine (spec_l1Below.calls g s0_0 s0_1 s0_2 (l1.length : Int) t360 t361 t362 w0 _ ?side1 ?side2 A5.out).mono ?_); (case side1 => repeat (first | (with_reducible first | exact HI0.out | apply IsS170.alloc | apply IsS170.drewN | apply IsS170.drew | apply IsS170.set_1 | apply IsS170.set_2) | exact HI0.out)); (case side2 => repeat (first | (with_reducible first | exact HB.out | apply below_alloc | apply pw_below_drewN | apply below_drew1 | refine below_set ?_ (IsS170.ge HI0.out)) | exact HB.out)); rintro e w8 ⟨rfl, hi, hb, hk⟩; refine ⟨_, rfl, ?_⟩; replace HK := zA (KeepBut.trans zq3 hk (.inl rfl)); replace HB := zA (hb); replace HI0 := zA (hi); clear hb hk hi; have p363 : 0 ≤ (t360 : Int) := of_decide_eq_true zq17; have q363 : t360 < (l1.length : Int) := of_decide_eq_true zq17; obtain ⟨ad363, e363, hx363_0⟩ := Kd.at_int HR1.out t360 p363 q363; cases e363; replace hx363_0 := keep_cell HK.out hx363_0 (by first | (rw [add_block]; exact hf1 _ rfl zq177) | exact hf1 _ rfl zq177 | exact hf1 ad363 rfl zq177); replace p363 := eq_true p363; replace q363 := eq_true q363))
 go_ret
 exact ⟨zq5, zq13, zq12, zq3⟩

/-! ### spec_l6Mac: function 132 -/
def spec_l6Mac.f (s0_0 : List Int) (s0_1 : Int) (s0_2 : Int) : Option (Int × Int × Int) := (spec_l1Int.f s0_0 s0_1 s0_2 (([11, 12, 13, 14] : List Int))).bind fun bt367 => (some (bt367.1, bt367.2.1, bt367.2.2))
set_option maxHeartbeats 8000000 in
set_option maxRecDepth 100000 in
theorem spec_l6Mac.calls (g : Nat) (s0_0 : List Int) (s0_1 : Int) (s0_2 : Int) (r1 : Int) (r2 : Int) (r3 : Int) (w0 w : World) (hI : IsS170 w0 w g s0_0 s0_1 s0_2) (hB : Below w0.heap.size w0 w) (h : spec_l6Mac.f s0_0 s0_1 s0_2 = some (r1, r2, r3)) :
  Calls Try.prog 132 #[.pointer (some ⟨g, 0, none⟩)] w fun e w' => e = .returned (.int .i64 r1) ∧ IsS170 w0 w' g s0_0 r2 r3 ∧ Below w0.heap.size w0 w' ∧ KeepBut w w' g none := by
 have HI0 := zA hI
 have HK := zA (KeepBut.refl w g none)
 have HL := zA hB.size
 clear hI
 have HW0 := zA hB.size
 have HB := zA hB
 clear hB
 unfold spec_l6Mac.f at h
 have H := h
 clear h
 have HC2 := zA H
 clear H
 go_enter Try.func132, Try.ntmps132
 go_upto_region 0 with (fail)
 have H := HC2.out
 clear HC2
 have HC3 := zA H
 clear H
 go_upto_region 1 with (fail)
 have H := HC3.out
 clear HC3
 obtain ⟨y364, hy364⟩ : ∃ y_ : List Int, y_ = (([11, 12, 13, 14] : List Int)) := ⟨_, rfl⟩
 rw [← hy364] at H
 have Ny364 := zA hy364
 clear hy364
 obtain ⟨⟨t367, t368, t369⟩, A4, H⟩ := zB H
 try dsimp only at H
 simp only [Option.some.injEq, Prod.mk.injEq] at H
 obtain ⟨rfl, rfl, rfl⟩ := H
 go_wp2_with (first | ((with_reducible refine gate_dst (N := 4) rfl ?_); refine Kd.R_lit (Kd.int .i64) _ 3 ?hg (N := 4) ?hd (xs := ([11, 12, 13, 14] : List Int)) (inner := [.int .i64 11, .int .i64 12, .int .i64 13, .int .i64 14]) (ok := fun _ => True) (okp := fun _ => True) ?hr ?hp (fun _ hk => hk) trivial (Below.refl _ _) (Nat.le_refl _) zq125 ?_; (case hd => rfl); (case hg => rfl); (case hr => first | (go_simp; done) | (go_simp; rfl)); (case hp => exact (Reps.one (show Kd.M (Kd.int .i64) _ _ _ 11 [.int .i64 11] from rfl) (Reps.one (show Kd.M (Kd.int .i64) _ _ _ 12 [.int .i64 12] from rfl) (Reps.one (show Kd.M (Kd.int .i64) _ _ _ 13 [.int .i64 13] from rfl) (Reps.one (show Kd.M (Kd.int .i64) _ _ _ 14 [.int .i64 14] from rfl) (Reps.none _ _)))))); intro v365 w5 ho6 hb hg_ hnew_; clear hg_ hnew_; (first | rw [← Ny364.out] at ho6 | (simp only [Int.reduceToNat] at ho6; rw [← Ny364.out] at ho6)); have HO366 := zA (Kd.R_lower ho6 (keep_size (w := w) (g := g) (row := none) zq3)); replace HK := zA (KeepBut.trans zq3 (KeepBut.of_below hb g none) (.inl rfl)); replace HB := zA (below_step zq12 hb); replace HI0 := zA (IsS170.below zq13 hb); clear hb ho6; obtain ⟨Ao7, co7, eo7⟩ := Kd.R_slice HO366.out; subst eo7) | ((with_reducible refine gate_callee (f := 140) rfl ?_); refine goesL_ (some 5) rfl rfl Try.func140 (by kernel_rfl) rfl #[.pointer (some ⟨g, 0, none⟩), .slice Ao7 y364.length co7] rfl zq1 ?_; (with_reducible refine (spec_l1Int.calls g s0_0 s0_1 s0_2 _ _ y364 t367 t368 t369 w0 _ ?side1 ?side2 ?side3 ?side4 ?side5 A4.out).mono ?_); (case side1 => repeat (first | (with_reducible first | exact HI0.out | apply IsS170.alloc | apply IsS170.drewN | apply IsS170.drew | apply IsS170.set_1 | apply IsS170.set_2) | exact HI0.out)); (case side2 => repeat (first | (with_reducible first | exact HB.out | apply below_alloc | apply pw_below_drewN | apply below_drew1 | refine below_set ?_ (IsS170.ge HI0.out)) | exact HB.out)); (case side3 => repeat (first | exact (Kd.R_reads' HO366.out).2.2 | (with_reducible refine Kd.C_alloc ?_ _) | (with_reducible refine Kd.C_drewN ?_ _) | (with_reducible refine Kd.C_drew ?_))); (case side4 => exact (Kd.R_reads' HO366.out).2.1); (case side5 => exact far_slice (IsS170.own_ne HI0.out HO366.out zq40)); rintro e w8 ⟨rfl, hi, hb, hk⟩; refine ⟨_, rfl, ?_⟩; replace HO366 := zA (Kd.R_mono (Kd.R_keep (IsS170.apart (show IsS170 w0 _ g s0_0 s0_1 s0_2 from by repeat (first | (with_reducible first | exact HI0.out | apply IsS170.alloc | apply IsS170.drewN | apply IsS170.drew | apply IsS170.set_1 | apply IsS170.set_2) | exact HI0.out)) (by (with_reducible repeat (first | apply Kd.R_alloc | apply Kd.R_drewN | apply Kd.R_drew)); exact HO366.out) zq40) hk (fun _ h => h.2)) (fun _ h => h.1)); replace HK := zA (KeepBut.trans zq3 hk (.inl rfl)); replace HB := zA (hb); replace HI0 := zA (hi); clear hb hk hi))
 go_ret
 exact ⟨zq5, zq13, zq12, zq3⟩

/-! ### spec_l1Bytes: function 190 -/
def spec_l1Bytes.l0 : Nat → Int → List Int → Int → List Int → Int → Int → Option (List Int × Int × Int)
 | 0, _, _, _, _, _, _ => none
 | k + 1, x1, x5, x6, x1000, x1001, x1002 => if x6 < x1 then ((spec_l1Byte.f x1000 x1001 x1002).bind fun bt373 => (if x5.length < 140737488355328 then (spec_l1Bytes.l0 k x1 (x5 ++ [(bt373.1) % 256]) (wrap64 (x6 + 1)) x1000 bt373.2.1 bt373.2.2) else (none))) else (some (x5, x1001, x1002))
def spec_l1Bytes.f (k : Nat) (s0_0 : List Int) (s0_1 : Int) (s0_2 : Int) (a1 : Int) : Option (List Int × Int × Int) := spec_l1Bytes.l0 k a1 (([] : List Int)) 0 s0_0 s0_1 s0_2
theorem spec_l1Bytes.mono_l : ∀ k, (∀ y0 y1 y2 y3 y4 y5, LeO (spec_l1Bytes.l0 k y0 y1 y2 y3 y4 y5) (spec_l1Bytes.l0 (k + 1) y0 y1 y2 y3 y4 y5))
 | 0 => fun _ _ _ _ _ _ r h => by simp [spec_l1Bytes.l0] at h
 | k + 1 => by
  have ih0 := spec_l1Bytes.mono_l k
  ·intro y0 y1 y2 y3 y4 y5
   unfold spec_l1Bytes.l0
   exact zR
theorem spec_l1Bytes.mono : ∀ a0 a1 a2 a3 k, LeO (spec_l1Bytes.f k a0 a1 a2 a3) (spec_l1Bytes.f (k + 1) a0 a1 a2 a3) := by
 intro a0 a1 a2 a3 k
 have ih0 := spec_l1Bytes.mono_l k
 unfold spec_l1Bytes.f
 exact zR
set_option maxHeartbeats 8000000 in
set_option maxRecDepth 100000 in
theorem spec_l1Bytes.calls (k : Nat) (g : Nat) (s0_0 : List Int) (s0_1 : Int) (s0_2 : Int) (a1 : Int) (r1 : List Int) (r2 : Int) (r3 : Int) (w0 w : World) (hI : IsS170 w0 w g s0_0 s0_1 s0_2) (hB : Below w0.heap.size w0 w) (h : spec_l1Bytes.f k s0_0 s0_1 s0_2 a1 = some (r1, r2, r3)) :
  Calls Try.prog 190 #[.pointer (some ⟨g, 0, none⟩), .int .i64 a1] w fun e w' => ∃ v0_ : Value, e = .returned (v0_) ∧ Kd.R (Kd.int .u8) 5 w' w.heap.size (fun _ => True) v0_ r1 ∧ IsS170 w0 w' g s0_0 r2 r3 ∧ Below w0.heap.size w0 w' ∧ KeepBut w w' g none := by
 have HI0 := zA hI
 have HK := zA (KeepBut.refl w g none)
 have HL := zA hB.size
 clear hI
 have HW0 := zA hB.size
 have HB := zA hB
 clear hB
 unfold spec_l1Bytes.f at h
 have H := h
 clear h
 have HC3 := zA H
 clear H
 go_enter Try.func190, Try.ntmps190
 go_upto_region 0 with (fail)
 have H := HC3.out
 clear HC3
 have HC4 := zA H
 clear H
 go_upto_region 1 with (fail)
 have H := HC4.out
 clear HC4
 obtain ⟨y370, hy370⟩ : ∃ y_ : List Int, y_ = (([] : List Int)) := ⟨_, rfl⟩
 rw [← hy370] at H
 have Ny370 := zA hy370
 clear hy370
 have HC5 := zA H
 clear H
 go_upto_region 2 with (first | ((with_reducible refine gate_dst (N := 7) rfl ?_); refine Kd.R_lit (Kd.int .u8) _ 5 ?hg (N := 7) ?hd (xs := ([] : List Int)) (inner := []) (ok := fun _ => True) (okp := fun _ => True) ?hr ?hp (fun _ hk => hk) trivial (Below.refl _ _) (Nat.le_refl _) zq125 ?_; (case hd => rfl); (case hg => rfl); (case hr => first | (go_simp; done) | (go_simp; rfl)); (case hp => exact (Reps.none _ _)); intro v371 w6 ho7 hb hg_ hnew_; clear hg_ hnew_; (first | rw [← Ny370.out] at ho7 | (simp only [Int.reduceToNat] at ho7; rw [← Ny370.out] at ho7)); have HO372 := zA (Kd.R_lower ho7 (keep_size (w := w) (g := g) (row := none) zq3)); replace HK := zA (KeepBut.trans zq3 (KeepBut.of_below hb g none) (.inl rfl)); replace HB := zA (below_step zq12 hb); replace HI0 := zA (IsS170.below zq13 hb); clear hb ho7))
 (try simp only [Act.put, List.setIfInBounds_toArray, List.set_cons_zero, List.set_cons_succ])
 have H := HC5.out
 clear HC5
 have H' := zA H
 clear H
 go_wp2
 go_loopg [5, 6] k (fun kq v5 v6 w' => ∃ (x5_1 : List Int) (x6_1 : Int) (x1001_1 : Int) (x1002_1 : Int), v6 = .int .i64 x6_1 ∧ Aside0 (spec_l1Bytes.l0 kq a1 x5_1 x6_1 s0_0 x1001_1 x1002_1 = some (r1, r2, r3)) ∧ Aside0 (kq ≤ k) ∧ Aside0 (Kd.R (Kd.int .u8) 5 w' w.heap.size (fun _ => True) v5 x5_1) ∧ Aside0 (IsS170 w0 w' g s0_0 x1001_1 x1002_1) ∧ Aside0 (KeepBut w w' g none) ∧ Aside0 (Below w0.heap.size w0 w'))
 case atStart => exact ⟨(y370), (0), (s0_1), (s0_2), zq25, H', ⟨Nat.le_refl _⟩, ⟨(by (with_reducible repeat (first | apply Kd.R_alloc | apply Kd.R_drewN | apply Kd.R_drew)); exact HO372.out)⟩, ⟨zq13⟩, ⟨zq3⟩, ⟨zq12⟩⟩
 case round =>
  clear H'
  try clear c1
  try clear p2
  obtain ⟨x5_1, x6_1, x1001_1, x1002_1, rfl, HA, HK1, HO_5, HI0, HK, HB⟩ := hrel
  cases gk with
  | zero => exact absurd HA.out (by simp [spec_l1Bytes.l0])
  | succ k1 =>
   have H := HA.out
   clear HA
   simp only [spec_l1Bytes.l0] at H
   have HC8 := zA H
   clear H
   go_upto_region 3 with (fail)
   have H := HC8.out
   clear HC8
   by_cases c9 : x6_1 < a1
   ·rw [if_pos c9] at H
    have c9b0 : decide (x6_1 < a1) = true := decide_eq_true c9
    clear c9
    have HC10 := zA H
    clear H
    go_upto_region 5 with (fail)
    have H := HC10.out
    clear HC10
    obtain ⟨⟨t373, t374, t375⟩, A11, H⟩ := zB H
    try dsimp only at H
    obtain ⟨c12, H⟩ := zN H
    have LMc12 := zA c12
    clear c12
    obtain ⟨y376, hy376⟩ : ∃ y_ : List Int, y_ = (x5_1 ++ [(t373) % 256]) := ⟨_, rfl⟩
    rw [← hy376] at H
    have Ny376 := zA hy376
    clear hy376
    have HC13 := zA H
    clear H
    go_upto_region 4 with (first | ((with_reducible refine gate_callee (f := 184) rfl ?_); refine goesL_ (some 15) rfl rfl Try.func184 (by kernel_rfl) rfl #[.pointer (some ⟨g, 0, none⟩)] rfl zq1 ?_; (with_reducible refine (spec_l1Byte.calls g s0_0 x1001_1 x1002_1 t373 t374 t375 w0 _ ?side1 ?side2 A11.out).mono ?_); (case side1 => repeat (first | (with_reducible first | exact HI0.out | apply IsS170.alloc | apply IsS170.drewN | apply IsS170.drew | apply IsS170.set_1 | apply IsS170.set_2) | exact HI0.out)); (case side2 => repeat (first | (with_reducible first | exact HB.out | apply below_alloc | apply pw_below_drewN | apply below_drew1 | refine below_set ?_ (IsS170.ge HI0.out)) | exact HB.out)); rintro e w14 ⟨rfl, hi, hb, hk⟩; refine ⟨_, rfl, ?_⟩; replace HO_5 := zA (Kd.R_mono (Kd.R_keep (IsS170.apart (show IsS170 w0 _ g s0_0 x1001_1 x1002_1 from by repeat (first | (with_reducible first | exact HI0.out | apply IsS170.alloc | apply IsS170.drewN | apply IsS170.drew | apply IsS170.set_1 | apply IsS170.set_2) | exact HI0.out)) zq182 zq40) hk (fun _ h => h.2)) (fun _ h => h.1)); replace HK := zA (KeepBut.trans zq3 hk (.inl rfl)); replace HB := zA (hb); replace HI0 := zA (hi); clear hb hk hi) | ((with_reducible refine gate_builtin (b := .append) (xs := #[.tmp 13, .tmp 17]) rfl ?_); at_builtin; refine Kd.R_append (Kd.int .u8) w.heap.size rfl (.tmp 13) (.tmp 17) 22 5 (.int .u8 0) 1 rfl Try.underlying22 info5 rfl zq40 zq177 u5 x5_1 ((t373) % 256) [.int .u8 ((t373) % 256)] (fun _ => True) (fun _ => False) rfl rfl ?aP (fun _ hk => hk.elim) ?aF ?aO (Below.refl _ _) ?aS ?aL ?_; (case aP => exact rfl); (case aF => exact (fun _ _ => trivial)); (case aO => exact zq182); (case aS => exact (keep_size (w := w) (g := g) (row := none) zq3)); (case aL => have := LMc12.out; omega); intro v377 w15 ho hb hg hat; rw [← Ny376.out] at ho; replace HB := zA (below_weaken zq12 HL.out hb); replace HI0 := zA (IsS170.grown zq13 hg (IsS170.own_ne HI0.out HO_5.out zq40)); replace HK := zA (KeepBut.trans zq3 (KeepBut.of_grown hg g) (Kd.R_base2 HO_5.out)); have HO378 := zA (ho); clear HO_5; clear ho hb hg hat))
    (try simp only [Act.put, List.setIfInBounds_toArray, List.set_cons_zero, List.set_cons_succ])
    have H := HC13.out
    clear HC13
    have H' := zA H
    clear H
    go_wp2
    go_roundg k1
    case measure => have := HK1.out; omega
    case rel => exact ⟨(y376), (wrap64 (x6_1 + 1)), (t374), (t375), zq25, H', ⟨zq190⟩, ⟨(by (with_reducible repeat (first | apply Kd.R_alloc | apply Kd.R_drewN | apply Kd.R_drew)); exact HO378.out)⟩, ⟨zq13⟩, ⟨zq3⟩, ⟨zq12⟩⟩
   ·rw [if_neg c9] at H
    have c9b0 : decide (x6_1 < a1) = false := decide_eq_false c9
    clear c9
    have HC16 := zA H
    clear H
    go_upto_region 6 with (fail)
    have H := HC16.out
    clear HC16
    simp only [Option.some.injEq, Prod.mk.injEq] at H
    obtain ⟨rfl, rfl, rfl⟩ := H
    go_wp2
    go_ret
    exact ⟨_, zq5, zq182, zq13, zq12, zq3⟩

/-! ### spec_l1Some: function 166 -/
def spec_l1Some.f (k : Nat) (s0_0 : List Int) (s0_1 : Int) (s0_2 : Int) : Option (List Int × Int × Int) := (spec_l1Int.f s0_0 s0_1 s0_2 (([0, 1, 2, 5, 9] : List Int))).bind fun bt382 => ((spec_l1Bytes.f k s0_0 bt382.2.1 bt382.2.2 bt382.1).bind fun bt385 => (some (bt385.1, bt385.2.1, bt385.2.2)))
theorem spec_l1Some.mono : ∀ a0 a1 a2 k, LeO (spec_l1Some.f k a0 a1 a2) (spec_l1Some.f (k + 1) a0 a1 a2) := by
 intro a0 a1 a2 k
 unfold spec_l1Some.f
 have m0_ := @spec_l1Bytes.mono
 exact zR
set_option maxHeartbeats 8000000 in
set_option maxRecDepth 100000 in
theorem spec_l1Some.calls (k : Nat) (g : Nat) (s0_0 : List Int) (s0_1 : Int) (s0_2 : Int) (r1 : List Int) (r2 : Int) (r3 : Int) (w0 w : World) (hI : IsS170 w0 w g s0_0 s0_1 s0_2) (hB : Below w0.heap.size w0 w) (h : spec_l1Some.f k s0_0 s0_1 s0_2 = some (r1, r2, r3)) :
  Calls Try.prog 166 #[.pointer (some ⟨g, 0, none⟩)] w fun e w' => ∃ v0_ : Value, e = .returned (v0_) ∧ Kd.R (Kd.int .u8) 5 w' w.heap.size (fun _ => True) v0_ r1 ∧ IsS170 w0 w' g s0_0 r2 r3 ∧ Below w0.heap.size w0 w' ∧ KeepBut w w' g none := by
 have HI0 := zA hI
 have HK := zA (KeepBut.refl w g none)
 have HL := zA hB.size
 clear hI
 have HW0 := zA hB.size
 have HB := zA hB
 clear hB
 unfold spec_l1Some.f at h
 have H := h
 clear h
 have HC2 := zA H
 clear H
 go_enter Try.func166, Try.ntmps166
 go_upto_region 0 with (fail)
 have H := HC2.out
 clear HC2
 have HC3 := zA H
 clear H
 go_upto_region 1 with (fail)
 have H := HC3.out
 clear HC3
 obtain ⟨y379, hy379⟩ : ∃ y_ : List Int, y_ = (([0, 1, 2, 5, 9] : List Int)) := ⟨_, rfl⟩
 rw [← hy379] at H
 have Ny379 := zA hy379
 clear hy379
 obtain ⟨⟨t382, t383, t384⟩, A4, H⟩ := zB H
 try dsimp only at H
 obtain ⟨⟨t385, t388, t389⟩, A5, H⟩ := zB H
 try dsimp only at H
 simp only [Option.some.injEq, Prod.mk.injEq] at H
 obtain ⟨rfl, rfl, rfl⟩ := H
 go_wp2_with (first | ((with_reducible refine gate_dst (N := 5) rfl ?_); refine Kd.R_lit (Kd.int .i64) _ 3 ?hg (N := 5) ?hd (xs := ([0, 1, 2, 5, 9] : List Int)) (inner := [.int .i64 0, .int .i64 1, .int .i64 2, .int .i64 5, .int .i64 9]) (ok := fun _ => True) (okp := fun _ => True) ?hr ?hp (fun _ hk => hk) trivial (Below.refl _ _) (Nat.le_refl _) zq125 ?_; (case hd => rfl); (case hg => rfl); (case hr => first | (go_simp; done) | (go_simp; rfl)); (case hp => exact (Reps.one (show Kd.M (Kd.int .i64) _ _ _ 0 [.int .i64 0] from rfl) (Reps.one (show Kd.M (Kd.int .i64) _ _ _ 1 [.int .i64 1] from rfl) (Reps.one (show Kd.M (Kd.int .i64) _ _ _ 2 [.int .i64 2] from rfl) (Reps.one (show Kd.M (Kd.int .i64) _ _ _ 5 [.int .i64 5] from rfl) (Reps.one (show Kd.M (Kd.int .i64) _ _ _ 9 [.int .i64 9] from rfl) (Reps.none _ _))))))); intro v380 w6 ho7 hb hg_ hnew_; clear hg_ hnew_; (first | rw [← Ny379.out] at ho7 | (simp only [Int.reduceToNat] at ho7; rw [← Ny379.out] at ho7)); have HO381 := zA (Kd.R_lower ho7 (keep_size (w := w) (g := g) (row := none) zq3)); replace HK := zA (KeepBut.trans zq3 (KeepBut.of_below hb g none) (.inl rfl)); replace HB := zA (below_step zq12 hb); replace HI0 := zA (IsS170.below zq13 hb); clear hb ho7; obtain ⟨Ao8, co8, eo8⟩ := Kd.R_slice HO381.out; subst eo8) | ((with_reducible refine gate_callee (f := 140) rfl ?_); refine goesL_ (some 6) rfl rfl Try.func140 (by kernel_rfl) rfl #[.pointer (some ⟨g, 0, none⟩), .slice Ao8 y379.length co8] rfl zq1 ?_; (with_reducible refine (spec_l1Int.calls g s0_0 s0_1 s0_2 _ _ y379 t382 t383 t384 w0 _ ?side1 ?side2 ?side3 ?side4 ?side5 A4.out).mono ?_); (case side1 => repeat (first | (with_reducible first | exact HI0.out | apply IsS170.alloc | apply IsS170.drewN | apply IsS170.drew | apply IsS170.set_1 | apply IsS170.set_2) | exact HI0.out)); (case side2 => repeat (first | (with_reducible first | exact HB.out | apply below_alloc | apply pw_below_drewN | apply below_drew1 | refine below_set ?_ (IsS170.ge HI0.out)) | exact HB.out)); (case side3 => repeat (first | exact (Kd.R_reads' HO381.out).2.2 | (with_reducible refine Kd.C_alloc ?_ _) | (with_reducible refine Kd.C_drewN ?_ _) | (with_reducible refine Kd.C_drew ?_))); (case side4 => exact (Kd.R_reads' HO381.out).2.1); (case side5 => exact far_slice (IsS170.own_ne HI0.out HO381.out zq40)); rintro e w9 ⟨rfl, hi, hb, hk⟩; refine ⟨_, rfl, ?_⟩; replace HO381 := zA (Kd.R_mono (Kd.R_keep (IsS170.apart (show IsS170 w0 _ g s0_0 s0_1 s0_2 from by repeat (first | (with_reducible first | exact HI0.out | apply IsS170.alloc | apply IsS170.drewN | apply IsS170.drew | apply IsS170.set_1 | apply IsS170.set_2) | exact HI0.out)) zq197 zq40) hk (fun _ h => h.2)) (fun _ h => h.1)); replace HK := zA (KeepBut.trans zq3 hk (.inl rfl)); replace HB := zA (hb); replace HI0 := zA (hi); clear hb hk hi) | ((with_reducible refine gate_callee (f := 190) rfl ?_); refine goesL_ (some 7) rfl rfl Try.func190 (by kernel_rfl) rfl #[.pointer (some ⟨g, 0, none⟩), .int .i64 t382] rfl zq1 ?_; (with_reducible refine (spec_l1Bytes.calls k g s0_0 t383 t384 t382 t385 t388 t389 w0 _ ?side1 ?side2 A5.out).mono ?_); (case side1 => repeat (first | (with_reducible first | exact HI0.out | apply IsS170.alloc | apply IsS170.drewN | apply IsS170.drew | apply IsS170.set_1 | apply IsS170.set_2) | exact HI0.out)); (case side2 => repeat (first | (with_reducible first | exact HB.out | apply below_alloc | apply pw_below_drewN | apply below_drew1 | refine below_set ?_ (IsS170.ge HI0.out)) | exact HB.out)); rintro e w10 ⟨v386, rfl, ho0, hi, hb, hk⟩; refine ⟨_, rfl, ?_⟩; replace HO381 := zA (Kd.R_mono (Kd.R_keep (IsS170.apart (show IsS170 w0 _ g s0_0 t383 t384 from by repeat (first | (with_reducible first | exact HI0.out | apply IsS170.alloc | apply IsS170.drewN | apply IsS170.drew | apply IsS170.set_1 | apply IsS170.set_2) | exact HI0.out)) zq197 zq40) hk (fun _ h => h.2)) (fun _ h => h.1)); have HO387 := zA (Kd.R_lower ho0 (keep_size (w := w) (g := g) (row := none) zq3)); replace HK := zA (KeepBut.trans zq3 hk (.inl rfl)); replace HB := zA (hb); replace HI0 := zA (hi); clear hb hk hi ho0))
 go_ret
 exact ⟨_, zq5, (by (with_reducible repeat (first | apply Kd.R_alloc | apply Kd.R_drewN | apply Kd.R_drew)); exact HO387.out), zq13, zq12, zq3⟩

/-! ### spec_l6Draw: function 161 -/
def spec_l6Draw.f (k : Nat) (s0_0 : List Int) (s0_1 : Int) (s0_2 : Int) : Option (Int × Int × Int × List Int × Int × Int) := (spec_l1Int.f s0_0 s0_1 s0_2 (([0, 11, 12, 13, 14, 11, 12] : List Int))).bind fun bt394 => ((spec_l6Mac.f s0_0 bt394.2.1 bt394.2.2).bind fun bt397 => ((spec_l1Int.f s0_0 bt397.2.1 bt397.2.2 (([0, 0, 0, 1, 2, 3] : List Int))).bind fun bt403 => ((spec_l1Some.f k s0_0 bt403.2.1 bt403.2.2).bind fun bt406 => (some (bt394.1, bt397.1, bt403.1, bt406.1, bt406.2.1, bt406.2.2)))))
theorem spec_l6Draw.mono : ∀ a0 a1 a2 k, LeO (spec_l6Draw.f k a0 a1 a2) (spec_l6Draw.f (k + 1) a0 a1 a2) := by
 intro a0 a1 a2 k
 unfold spec_l6Draw.f
 have m0_ := @spec_l1Some.mono
 exact zR
set_option maxHeartbeats 8000000 in
set_option maxRecDepth 100000 in
theorem spec_l6Draw.calls (k : Nat) (g : Nat) (s0_0 : List Int) (s0_1 : Int) (s0_2 : Int) (r1 : Int) (r2 : Int) (r3 : Int) (r4 : List Int) (r5 : Int) (r6 : Int) (w0 w : World) (hI : IsS170 w0 w g s0_0 s0_1 s0_2) (hB : Below w0.heap.size w0 w) (h : spec_l6Draw.f k s0_0 s0_1 s0_2 = some (r1, r2, r3, r4, r5, r6)) :
  Calls Try.prog 161 #[.pointer (some ⟨g, 0, none⟩)] w fun e w' => ∃ v3_ : Value, e = .returned (.agg #[.int .i64 r1, .int .i64 r2, .int .i64 r3, v3_]) ∧ Kd.R (Kd.int .u8) 5 w' w.heap.size (fun _ => True) v3_ r4 ∧ IsS170 w0 w' g s0_0 r5 r6 ∧ Below w0.heap.size w0 w' ∧ KeepBut w w' g none := by
 have hu54 := Try.underlying54
 have HI0 := zA hI
 have HK := zA (KeepBut.refl w g none)
 have HL := zA hB.size
 clear hI
 have HW0 := zA hB.size
 have HB := zA hB
 clear hB
 unfold spec_l6Draw.f at h
 have H := h
 clear h
 have HC2 := zA H
 clear H
 go_enter Try.func161, Try.ntmps161
 go_upto_region 0 with (fail)
 have H := HC2.out
 clear HC2
 have HC3 := zA H
 clear H
 go_upto_region 1 with (first | ((with_reducible refine gate_dst (N := 2) rfl ?_); refine box_event ?hg (N := 2) ?hd (cs := #[.int .i64 0, .int .i64 0, .int .i64 0, .slice none 0 0]) (t := 54) ?hr ?_; (case hd => rfl); (case hg => rfl); (case hr => first | (go_simp; done) | (go_simp; rfl)); intro gb390 hg w4 hbox hb; replace HB := zA (below_step zq12 hb); have BK390 := zA (hbox); have GW390 := zA ((zq111 : w.heap.size ≤ gb390)); have GE390 := zA ((Nat.le_trans HW0.out (zq111 : w.heap.size ≤ gb390) : w0.heap.size ≤ gb390)); replace HK := zA (KeepBut.trans zq3 (KeepBut.of_below hb g none) (.inl rfl)); have NB0_390 := zA ((zq171 : g ≠ gb390)); have NB390_0 := zA ((zq172 : gb390 ≠ g)); replace HI0 := zA (IsS170.below zq13 hb); clear hb hbox hg))
 (try simp only [Act.put, List.setIfInBounds_toArray, List.set_cons_zero, List.set_cons_succ])
 have H := HC3.out
 clear HC3
 obtain ⟨y391, hy391⟩ : ∃ y_ : List Int, y_ = (([0, 11, 12, 13, 14, 11, 12] : List Int)) := ⟨_, rfl⟩
 rw [← hy391] at H
 have Ny391 := zA hy391
 clear hy391
 obtain ⟨⟨t394, t395, t396⟩, A5, H⟩ := zB H
 try dsimp only at H
 obtain ⟨⟨t397, t398, t399⟩, A6, H⟩ := zB H
 try dsimp only at H
 obtain ⟨y400, hy400⟩ : ∃ y_ : List Int, y_ = (([0, 0, 0, 1, 2, 3] : List Int)) := ⟨_, rfl⟩
 rw [← hy400] at H
 have Ny400 := zA hy400
 clear hy400
 obtain ⟨⟨t403, t404, t405⟩, A7, H⟩ := zB H
 try dsimp only at H
 obtain ⟨⟨t406, t409, t410⟩, A8, H⟩ := zB H
 try dsimp only at H
 simp only [Option.some.injEq, Prod.mk.injEq] at H
 obtain ⟨rfl, rfl, rfl, rfl, rfl, rfl⟩ := H
 go_wp2_with (first | ((with_reducible refine gate_dst (N := 4) rfl ?_); refine Kd.R_lit (Kd.int .i64) _ 3 ?hg (N := 4) ?hd (xs := ([0, 11, 12, 13, 14, 11, 12] : List Int)) (inner := [.int .i64 0, .int .i64 11, .int .i64 12, .int .i64 13, .int .i64 14, .int .i64 11, .int .i64 12]) (ok := fun _ => True) (okp := fun _ => True) ?hr ?hp (fun _ hk => hk) trivial (Below.refl _ _) (Nat.le_refl _) zq125 ?_; (case hd => rfl); (case hg => rfl); (case hr => first | (go_simp; done) | (go_simp; rfl)); (case hp => exact (Reps.one (show Kd.M (Kd.int .i64) _ _ _ 0 [.int .i64 0] from rfl) (Reps.one (show Kd.M (Kd.int .i64) _ _ _ 11 [.int .i64 11] from rfl) (Reps.one (show Kd.M (Kd.int .i64) _ _ _ 12 [.int .i64 12] from rfl) (Reps.one (show Kd.M (Kd.int .i64) _ _ _ 13 [.int .i64 13] from rfl) (Reps.one (show Kd.M (Kd.int .i64) _ _ _ 14 [.int .i64 14] from rfl) (Reps.one (show Kd.M (Kd.int .i64) _ _ _ 11 [.int .i64 11] from rfl) (Reps.one (show Kd.M (Kd.int .i64) _ _ _ 12 [.int .i64 12] from rfl) (Reps.none _ _))))))))); intro v392 w9 ho10 hb hg_ hnew_; clear hg_ hnew_; (first | rw [← Ny391.out] at ho10 | (simp only [Int.reduceToNat] at ho10; rw [← Ny391.out] at ho10)); have HO393 := zA (Kd.R_lower ho10 (keep_size (w := w) (g := g) (row := none) zq50)); replace BK390 := zA (blk_below (g := gb390) (o := .cells #[.int .i64 0, .int .i64 0, .int .i64 0, .slice none 0 0] 54 (0, 0)) zq115 hb); replace HK := zA (KeepBut.trans zq50 (KeepBut.of_below hb g none) (.inl rfl)); replace HB := zA (below_step zq149 hb); replace HI0 := zA (IsS170.below zq146 hb); clear hb ho10; obtain ⟨Ao11, co11, eo11⟩ := Kd.R_slice HO393.out; subst eo11) | ((with_reducible refine gate_callee (f := 140) rfl ?_); refine goesL_ (some 5) rfl rfl Try.func140 (by kernel_rfl) rfl #[.pointer (some ⟨g, 0, none⟩), .slice Ao11 y391.length co11] rfl zq1 ?_; (with_reducible refine (spec_l1Int.calls g s0_0 s0_1 s0_2 _ _ y391 t394 t395 t396 w0 _ ?side1 ?side2 ?side3 ?side4 ?side5 A5.out).mono ?_); (case side1 => repeat (first | (with_reducible first | exact HI0.out | apply IsS170.alloc | apply IsS170.drewN | apply IsS170.drew | apply IsS170.set_1 | apply IsS170.set_2 | refine IsS170.far ?_ NB0_390.out _) | exact HI0.out)); (case side2 => repeat (first | (with_reducible first | exact HB.out | apply below_alloc | apply pw_below_drewN | apply below_drew1 | refine below_set ?_ (IsS170.ge HI0.out) | refine below_set ?_ GE390.out) | exact HB.out)); (case side3 => repeat (first | exact (Kd.R_reads' HO393.out).2.2 | (with_reducible refine Kd.C_alloc ?_ _) | (with_reducible refine Kd.C_drewN ?_ _) | (with_reducible refine Kd.C_drew ?_))); (case side4 => exact (Kd.R_reads' HO393.out).2.1); (case side5 => exact far_slice (IsS170.own_ne HI0.out HO393.out zq40)); rintro e w12 ⟨rfl, hi, hb, hk⟩; refine ⟨_, rfl, ?_⟩; replace BK390 := zA (KeepBut.blk hk (g' := gb390) (o := .cells #[.int .i64 0, .int .i64 0, .int .i64 0, .slice none 0 0] 54 (0, 0)) zq115 NB390_0.out zq125); replace HO393 := zA (Kd.R_mono (Kd.R_keep (IsS170.apart (show IsS170 w0 _ g s0_0 s0_1 s0_2 from by repeat (first | (with_reducible first | exact HI0.out | apply IsS170.alloc | apply IsS170.drewN | apply IsS170.drew | apply IsS170.set_1 | apply IsS170.set_2 | refine IsS170.far ?_ NB0_390.out _) | exact HI0.out)) zq121 zq40) hk (fun _ h => h.2)) (fun _ h => h.1)); replace HK := zA (KeepBut.trans zq50 hk (.inl rfl)); replace HB := zA (hb); replace HI0 := zA (hi); clear hb hk hi) | ((with_reducible refine gate_callee (f := 132) rfl ?_); refine goesL_ (some 7) rfl rfl Try.func132 (by kernel_rfl) rfl #[.pointer (some ⟨g, 0, none⟩)] rfl zq1 ?_; (with_reducible refine (spec_l6Mac.calls g s0_0 t395 t396 t397 t398 t399 w0 _ ?side1 ?side2 A6.out).mono ?_); (case side1 => repeat (first | (with_reducible first | exact HI0.out | apply IsS170.alloc | apply IsS170.drewN | apply IsS170.drew | apply IsS170.set_1 | apply IsS170.set_2 | refine IsS170.far ?_ NB0_390.out _) | exact HI0.out)); (case side2 => repeat (first | (with_reducible first | exact HB.out | apply below_alloc | apply pw_below_drewN | apply below_drew1 | refine below_set ?_ (IsS170.ge HI0.out) | refine below_set ?_ GE390.out) | exact HB.out)); rintro e w13 ⟨rfl, hi, hb, hk⟩; refine ⟨_, rfl, ?_⟩; replace BK390 := zA (KeepBut.blk hk (g' := gb390) (o := .cells #[.int .i64 0, .int .i64 0, .int .i64 0, .slice none 0 0] 54 (0, 0)) zq115 NB390_0.out zq125); replace HO393 := zA (Kd.R_mono (Kd.R_keep (IsS170.apart (show IsS170 w0 _ g s0_0 t395 t396 from by repeat (first | (with_reducible first | exact HI0.out | apply IsS170.alloc | apply IsS170.drewN | apply IsS170.drew | apply IsS170.set_1 | apply IsS170.set_2 | refine IsS170.far ?_ NB0_390.out _) | exact HI0.out)) zq121 zq40) hk (fun _ h => h.2)) (fun _ h => h.1)); replace HK := zA (KeepBut.trans zq50 hk (.inl rfl)); replace HB := zA (hb); replace HI0 := zA (hi); clear hb hk hi) | ((with_reducible refine gate_dst (N := 9) rfl ?_); refine Kd.R_lit (Kd.int .i64) _ 3 ?hg (N := 9) ?hd (xs := ([0, 0, 0, 1, 2, 3] : List Int)) (inner := [.int .i64 0, .int .i64 0, .int .i64 0, .int .i64 1, .int .i64 2, .int .i64 3]) (ok := fun _ => True) (okp := fun _ => True) ?hr ?hp (fun _ hk => hk) trivial (Below.refl _ _) (Nat.le_refl _) zq125 ?_; (case hd => rfl); (case hg => rfl); (case hr => first | (go_simp; done) | (go_simp; rfl)); (case hp => exact (Reps.one (show Kd.M (Kd.int .i64) _ _ _ 0 [.int .i64 0] from rfl) (Reps.one (show Kd.M (Kd.int .i64) _ _ _ 0 [.int .i64 0] from rfl) (Reps.one (show Kd.M (Kd.int .i64) _ _ _ 0 [.int .i64 0] from rfl) (Reps.one (show Kd.M (Kd.int .i64) _ _ _ 1 [.int .i64 1] from rfl) (Reps.one (show Kd.M (Kd.int .i64) _ _ _ 2 [.int .i64 2] from rfl) (Reps.one (show Kd.M (Kd.int .i64) _ _ _ 3 [.int .i64 3] from rfl) (Reps.none _ _)))))))); intro v401 w14 ho15 hb hg_ hnew_; clear hg_ hnew_; (first | rw [← Ny400.out] at ho15 | (simp only [Int.reduceToNat] at ho15; rw [← Ny400.out] at ho15)); have HO402 := zA (Kd.R_lower (Kd.R_new' ho15 (Kd.R_lt zq121)) (keep_size (w := w) (g := g) (row := none) zq50)); replace HO393 := zA (Kd.R_elder' zq121 (Kd.R_base ho15) hb); replace BK390 := zA (blk_below (g := gb390) (o := .cells #[.int .i64 0, .int .i64 0, .int .i64 0, .slice none 0 0] 54 (0, 0)) zq115 hb); replace HK := zA (KeepBut.trans zq50 (KeepBut.of_below hb g none) (.inl rfl)); replace HB := zA (below_step zq149 hb); replace HI0 := zA (IsS170.below zq146 hb); clear hb ho15; obtain ⟨Ao16, co16, eo16⟩ := Kd.R_slice HO402.out; subst eo16) | ((with_reducible refine gate_callee (f := 140) rfl ?_); refine goesL_ (some 10) rfl rfl Try.func140 (by kernel_rfl) rfl #[.pointer (some ⟨g, 0, none⟩), .slice Ao16 y400.length co16] rfl zq1 ?_; (with_reducible refine (spec_l1Int.calls g s0_0 t398 t399 _ _ y400 t403 t404 t405 w0 _ ?side1 ?side2 ?side3 ?side4 ?side5 A7.out).mono ?_); (case side1 => repeat (first | (with_reducible first | exact HI0.out | apply IsS170.alloc | apply IsS170.drewN | apply IsS170.drew | apply IsS170.set_1 | apply IsS170.set_2 | refine IsS170.far ?_ NB0_390.out _) | exact HI0.out)); (case side2 => repeat (first | (with_reducible first | exact HB.out | apply below_alloc | apply pw_below_drewN | apply below_drew1 | refine below_set ?_ (IsS170.ge HI0.out) | refine below_set ?_ GE390.out) | exact HB.out)); (case side3 => repeat (first | exact (Kd.R_reads' HO402.out).2.2 | (with_reducible refine Kd.C_alloc ?_ _) | (with_reducible refine Kd.C_drewN ?_ _) | (with_reducible refine Kd.C_drew ?_))); (case side4 => exact (Kd.R_reads' HO402.out).2.1); (case side5 => exact far_slice (IsS170.own_ne HI0.out HO402.out zq40)); rintro e w17 ⟨rfl, hi, hb, hk⟩; refine ⟨_, rfl, ?_⟩; replace BK390 := zA (KeepBut.blk hk (g' := gb390) (o := .cells #[.int .i64 0, .int .i64 0, .int .i64 0, .slice none 0 0] 54 (0, 0)) zq115 NB390_0.out zq125); replace HO393 := zA (Kd.R_mono (Kd.R_keep (IsS170.apart (show IsS170 w0 _ g s0_0 t398 t399 from by repeat (first | (with_reducible first | exact HI0.out | apply IsS170.alloc | apply IsS170.drewN | apply IsS170.drew | apply IsS170.set_1 | apply IsS170.set_2 | refine IsS170.far ?_ NB0_390.out _) | exact HI0.out)) zq121 zq40) hk (fun _ h => h.2)) (fun _ h => h.1)); replace HO402 := zA (Kd.R_mono (Kd.R_keep (IsS170.apart (show IsS170 w0 _ g s0_0 t398 t399 from by repeat (first | (with_reducible first | exact HI0.out | apply IsS170.alloc | apply IsS170.drewN | apply IsS170.drew | apply IsS170.set_1 | apply IsS170.set_2 | refine IsS170.far ?_ NB0_390.out _) | exact HI0.out)) zq198 zq40) hk (fun _ h => h.2)) (fun _ h => h.1)); replace HK := zA (KeepBut.trans zq50 hk (.inl rfl)); replace HB := zA (hb); replace HI0 := zA (hi); clear hb hk hi) | ((with_reducible refine gate_callee (f := 166) rfl ?_); refine goesL_ (some 12) rfl rfl Try.func166 (by kernel_rfl) rfl #[.pointer (some ⟨g, 0, none⟩)] rfl zq1 ?_; (with_reducible refine (spec_l1Some.calls k g s0_0 t404 t405 t406 t409 t410 w0 _ ?side1 ?side2 A8.out).mono ?_); (case side1 => repeat (first | (with_reducible first | exact HI0.out | apply IsS170.alloc | apply IsS170.drewN | apply IsS170.drew | apply IsS170.set_1 | apply IsS170.set_2 | refine IsS170.far ?_ NB0_390.out _) | exact HI0.out)); (case side2 => repeat (first | (with_reducible first | exact HB.out | apply below_alloc | apply pw_below_drewN | apply below_drew1 | refine below_set ?_ (IsS170.ge HI0.out) | refine below_set ?_ GE390.out) | exact HB.out)); rintro e w18 ⟨v407, rfl, ho0, hi, hb, hk⟩; refine ⟨_, rfl, ?_⟩; replace BK390 := zA (KeepBut.blk hk (g' := gb390) (o := .cells #[.int .i64 0, .int .i64 0, .int .i64 0, .slice none 0 0] 54 (0, 0)) zq115 NB390_0.out zq125); replace HO393 := zA (Kd.R_mono (Kd.R_keep (IsS170.apart (show IsS170 w0 _ g s0_0 t404 t405 from by repeat (first | (with_reducible first | exact HI0.out | apply IsS170.alloc | apply IsS170.drewN | apply IsS170.drew | apply IsS170.set_1 | apply IsS170.set_2 | refine IsS170.far ?_ NB0_390.out _) | exact HI0.out)) zq121 zq40) hk (fun _ h => h.2)) (fun _ h => h.1)); replace HO402 := zA (Kd.R_mono (Kd.R_keep (IsS170.apart (show IsS170 w0 _ g s0_0 t404 t405 from by repeat (first | (with_reducible first | exact HI0.out | apply IsS170.alloc | apply IsS170.drewN | apply IsS170.drew | apply IsS170.set_1 | apply IsS170.set_2 | refine IsS170.far ?_ NB0_390.out _) | exact HI0.out)) zq198 zq40) hk (fun _ h => h.2)) (fun _ h => h.1)); have HO408 := zA (Kd.R_lower ho0 (keep_size (w := w) (g := g) (row := none) zq50)); replace HK := zA (KeepBut.trans zq50 hk (.inl rfl)); replace HB := zA (hb); replace HI0 := zA (hi); clear hb hk hi ho0; obtain ⟨Ao19, co19, eo19⟩ := Kd.R_slice HO408.out; subst eo19; have hnb20 := NB390_0.out; have hnc20 := NB0_390.out; have hcz21_0 : w18.cell? ⟨gb390, 0, none⟩ = some (.int .i64 0) := (blk_cell BK390.out 0).trans rfl; have hcz21_1 : w18.cell? ⟨gb390, 1, none⟩ = some (.int .i64 0) := (blk_cell BK390.out 1).trans rfl; have hcz21_2 : w18.cell? ⟨gb390, 2, none⟩ = some (.int .i64 0) := (blk_cell BK390.out 2).trans rfl; have hcz21_3 : w18.cell? ⟨gb390, 3, none⟩ = some (.slice none 0 0) := (blk_cell BK390.out 3).trans rfl; have hfz21_0 := blk_frozen BK390.out 0; have hfz21_1 := blk_frozen BK390.out 1; have hfz21_2 := blk_frozen BK390.out 2; have hfz21_3 := blk_frozen BK390.out 3))
 refine bodyPost_ret (results_cell_row rfl _ _ gb390 54 #[.int .i64 t394, .int .i64 t397, .int .i64 t403, .slice Ao19 t406.length co19] (0, 0) _ rfl (by (with_reducible repeat (first | refine blk_drewN ?_ _ | refine blk_drew ?_ | refine blk_alloc ?_ _)); refine blk_put (cs := #[.int .i64 t394, .int .i64 t397, .int .i64 t403, .slice none 0 0]) ?_ 3 _ rfl; (with_reducible repeat (first | refine blk_drewN ?_ _ | refine blk_drew ?_ | refine blk_alloc ?_ _)); refine blk_put (cs := #[.int .i64 t394, .int .i64 t397, .int .i64 0, .slice none 0 0]) ?_ 2 _ rfl; (with_reducible repeat (first | refine blk_drewN ?_ _ | refine blk_drew ?_ | refine blk_alloc ?_ _)); refine blk_put (cs := #[.int .i64 t394, .int .i64 0, .int .i64 0, .slice none 0 0]) ?_ 1 _ rfl; (with_reducible repeat (first | refine blk_drewN ?_ _ | refine blk_drew ?_ | refine blk_alloc ?_ _)); refine blk_put (cs := #[.int .i64 0, .int .i64 0, .int .i64 0, .slice none 0 0]) ?_ 0 _ rfl; (with_reducible repeat (first | refine blk_drewN ?_ _ | refine blk_drew ?_ | refine blk_alloc ?_ _)); exact BK390.out) Try.underlying54 rfl (by kernel_rfl)) rfl ?_
 exact ⟨_, zq5, (by (with_reducible repeat (first | apply Kd.R_alloc | apply Kd.R_drewN | apply Kd.R_drew)); exact Kd.R_mono (Kd.R_far (p := ⟨gb390, 3, none⟩) (Kd.R_far (p := ⟨gb390, 2, none⟩) (Kd.R_far (p := ⟨gb390, 1, none⟩) (Kd.R_far (p := ⟨gb390, 0, none⟩) (Kd.R_types HO408.out BK390.out zq40) (fun _ hk => hk.2) (.int .i64 t394)) (fun _ hk => hk.2) (.int .i64 t397)) (fun _ hk => hk.2) (.int .i64 t403)) (fun _ hk => hk.2) (.slice Ao19 t406.length co19)) (fun _ hk => trivial)), zq146, zq149, zq50⟩

/-! ### spec_l6Any: function 159 -/
def spec_l6Any.f (k : Nat) (s0_0 : List Int) (s0_1 : Int) (s0_2 : Int) : Option (Int × Int × Int × List Int × Int × Int) := (spec_l6Draw.f k s0_0 s0_1 s0_2).bind fun bt412 => ((spec_l1Below.f s0_0 bt412.2.2.2.2.1 bt412.2.2.2.2.2 10).bind fun bt421 => (if bt421.1 = 0 then ((spec_l1Int.f s0_0 bt421.2.1 bt421.2.2 (([(-1), 9999, 10000] : List Int))).bind fun bt427 => (some (bt427.1, bt412.2.1, bt412.2.2.1, bt412.2.2.2.1, bt427.2.1, bt427.2.2))) else (if bt421.1 = 1 then ((spec_l1Int.f s0_0 bt421.2.1 bt421.2.2 (([0, 9999, 10000] : List Int))).bind fun bt433 => (some (bt412.1, bt433.1, bt412.2.2.1, bt412.2.2.2.1, bt433.2.1, bt433.2.2))) else (if bt421.1 = 2 then ((spec_l1Int.f s0_0 bt421.2.1 bt421.2.2 (([(-1), 99, 100] : List Int))).bind fun bt439 => (some (bt412.1, bt412.2.1, bt439.1, bt412.2.2.2.1, bt439.2.1, bt439.2.2))) else (if bt421.1 = 3 then ((spec_l1Below.f s0_0 bt421.2.1 bt421.2.2 2).bind fun bt442 => (if 0 ≤ (wrap64 (20 + bt442.1)) then (if (wrap64 (20 + bt442.1) : Int).toNat ≤ 281474976710656 then (some (bt412.1, bt412.2.1, bt412.2.2.1, (List.replicate (wrap64 (20 + bt442.1) : Int).toNat 0), bt442.2.1, bt442.2.2)) else (none)) else (none))) else (some (bt412.1, bt412.2.1, bt412.2.2.1, bt412.2.2.2.1, bt421.2.1, bt421.2.2)))))))
theorem spec_l6Any.mono : ∀ a0 a1 a2 k, LeO (spec_l6Any.f k a0 a1 a2) (spec_l6Any.f (k + 1) a0 a1 a2) := by
 intro a0 a1 a2 k
 unfold spec_l6Any.f
 have m0_ := @spec_l6Draw.mono
 exact zR
set_option maxHeartbeats 8000000 in
set_option maxRecDepth 100000 in
theorem spec_l6Any.calls (k : Nat) (g : Nat) (s0_0 : List Int) (s0_1 : Int) (s0_2 : Int) (r1 : Int) (r2 : Int) (r3 : Int) (r4 : List Int) (r5 : Int) (r6 : Int) (w0 w : World) (hI : IsS170 w0 w g s0_0 s0_1 s0_2) (hB : Below w0.heap.size w0 w) (h : spec_l6Any.f k s0_0 s0_1 s0_2 = some (r1, r2, r3, r4, r5, r6)) :
  Calls Try.prog 159 #[.pointer (some ⟨g, 0, none⟩)] w fun e w' => ∃ v3_ : Value, e = .returned (.agg #[.int .i64 r1, .int .i64 r2, .int .i64 r3, v3_]) ∧ Kd.R (Kd.int .u8) 5 w' w.heap.size (fun _ => True) v3_ r4 ∧ IsS170 w0 w' g s0_0 r5 r6 ∧ Below w0.heap.size w0 w' ∧ KeepBut w w' g none := by
 have hu54 := Try.underlying54
 have HI0 := zA hI
 have HK := zA (KeepBut.refl w g none)
 have HL := zA hB.size
 clear hI
 have HW0 := zA hB.size
 have HB := zA hB
 clear hB
 unfold spec_l6Any.f at h
 have H := h
 clear h
 have HC2 := zA H
 clear H
 go_enter Try.func159, Try.ntmps159
 go_upto_region 0 with (fail)
 have H := HC2.out
 clear HC2
 have HC3 := zA H
 clear H
 go_upto_region 1 with (first | ((with_reducible refine gate_dst (N := 2) rfl ?_); refine box_event ?hg (N := 2) ?hd (cs := #[.int .i64 0, .int .i64 0, .int .i64 0, .slice none 0 0]) (t := 54) ?hr ?_; (case hd => rfl); (case hg => rfl); (case hr => first | (go_simp; done) | (go_simp; rfl)); intro gb411 hg w4 hbox hb; replace HB := zA (below_step zq12 hb); have BK411 := zA (hbox); have GW411 := zA ((zq111 : w.heap.size ≤ gb411)); have GE411 := zA ((Nat.le_trans HW0.out (zq111 : w.heap.size ≤ gb411) : w0.heap.size ≤ gb411)); replace HK := zA (KeepBut.trans zq3 (KeepBut.of_below hb g none) (.inl rfl)); have NB0_411 := zA ((zq171 : g ≠ gb411)); have NB411_0 := zA ((zq172 : gb411 ≠ g)); replace HI0 := zA (IsS170.below zq13 hb); clear hb hbox hg))
 (try simp only [Act.put, List.setIfInBounds_toArray, List.set_cons_zero, List.set_cons_succ])
 have H := HC3.out
 clear HC3
 obtain ⟨⟨t412, t413, t414, t415, t418, t419⟩, A5, H⟩ := zB H
 try dsimp only at H
 have HC6 := zA H
 clear H
 go_upto_region 2 with (first | ((with_reducible refine gate_callee (f := 161) rfl ?_); refine goesL_ (some 5) rfl rfl Try.func161 (by kernel_rfl) rfl #[.pointer (some ⟨g, 0, none⟩)] rfl zq1 ?_; (with_reducible refine (spec_l6Draw.calls k g s0_0 s0_1 s0_2 t412 t413 t414 t415 t418 t419 w0 _ ?side1 ?side2 A5.out).mono ?_); (case side1 => repeat (first | (with_reducible first | exact HI0.out | apply IsS170.alloc | apply IsS170.drewN | apply IsS170.drew | apply IsS170.set_1 | apply IsS170.set_2 | refine IsS170.far ?_ NB0_411.out _) | exact HI0.out)); (case side2 => repeat (first | (with_reducible first | exact HB.out | apply below_alloc | apply pw_below_drewN | apply below_drew1 | refine below_set ?_ (IsS170.ge HI0.out) | refine below_set ?_ GE411.out) | exact HB.out)); rintro e w7 ⟨v416, rfl, ho0, hi, hb, hk⟩; refine ⟨_, rfl, ?_⟩; replace BK411 := zA (KeepBut.blk hk (g' := gb411) (o := .cells #[.int .i64 0, .int .i64 0, .int .i64 0, .slice none 0 0] 54 (0, 0)) zq59 NB411_0.out zq125); have HO417 := zA (Kd.R_lower ho0 (keep_size (w := w) (g := g) (row := none) zq100)); replace HK := zA (KeepBut.trans zq100 hk (.inl rfl)); replace HB := zA (hb); replace HI0 := zA (hi); clear hb hk hi ho0) | ((with_reducible refine gate_dst (N := 3) rfl ?_); refine box_event ?hg (N := 3) ?hd (cs := #[.int .i64 0, .int .i64 0, .int .i64 0, .slice none 0 0]) (t := 54) ?hr ?_; (case hd => rfl); (case hg => rfl); (case hr => first | (go_simp; done) | (go_simp; rfl)); intro gb420 hg w8 hbox hb; replace HO417 := zA (Kd.R_below zq79 hb); replace HB := zA (below_step (by repeat (first | (with_reducible first | exact HB.out | apply below_alloc | apply pw_below_drewN | apply below_drew1 | refine below_set ?_ (IsS170.ge HI0.out) | refine below_set ?_ GE411.out) | exact HB.out)) hb); have BK420 := zA (hbox); have GW420 := zA ((zq174 : w.heap.size ≤ gb420)); have GE420 := zA ((Nat.le_trans HW0.out (zq174 : w.heap.size ≤ gb420) : w0.heap.size ≤ gb420)); replace HK := zA (KeepBut.trans zq100 (KeepBut.of_below hb g none) (.inl rfl)); have NB411_420 := zA ((by rw [hg]; exact Nat.ne_of_lt (blk_lt (g := gb411) (o := .cells #[.int .i64 0, .int .i64 0, .int .i64 0, .slice none 0 0] 54 (0, 0)) zq59) : gb411 ≠ gb420)); have NB420_411 := zA ((by rw [hg]; exact Nat.ne_of_gt (blk_lt (g := gb411) (o := .cells #[.int .i64 0, .int .i64 0, .int .i64 0, .slice none 0 0] 54 (0, 0)) zq59) : gb420 ≠ gb411)); replace BK411 := zA (blk_below (g := gb411) (o := .cells #[.int .i64 0, .int .i64 0, .int .i64 0, .slice none 0 0] 54 (0, 0)) zq59 hb); have NB0_420 := zA ((by rw [hg]; exact Nat.ne_of_lt (IsS170.lt (show IsS170 w0 _ g s0_0 t418 t419 from by repeat (first | (with_reducible first | exact HI0.out | apply IsS170.alloc | apply IsS170.drewN | apply IsS170.drew | apply IsS170.set_1 | apply IsS170.set_2 | refine IsS170.far ?_ NB0_411.out _) | exact HI0.out))) : g ≠ gb420)); have NB420_0 := zA ((by rw [hg]; exact Nat.ne_of_gt (IsS170.lt (show IsS170 w0 _ g s0_0 t418 t419 from by repeat (first | (with_reducible first | exact HI0.out | apply IsS170.alloc | apply IsS170.drewN | apply IsS170.drew | apply IsS170.set_1 | apply IsS170.set_2 | refine IsS170.far ?_ NB0_411.out _) | exact HI0.out))) : gb420 ≠ g)); replace HI0 := zA (IsS170.below (by repeat (first | (with_reducible first | exact HI0.out | apply IsS170.alloc | apply IsS170.drewN | apply IsS170.drew | apply IsS170.set_1 | apply IsS170.set_2 | refine IsS170.far ?_ NB0_411.out _) | exact HI0.out)) hb); clear hb hbox hg; have hnb9 := NB420_411.out; have hnc9 := NB411_420.out; have hnb10 := NB420_0.out; have hnc10 := NB0_420.out; have hcz11_0 : w8.cell? ⟨gb420, 0, none⟩ = some (.int .i64 0) := (blk_cell BK420.out 0).trans rfl; have hcz11_1 : w8.cell? ⟨gb420, 1, none⟩ = some (.int .i64 0) := (blk_cell BK420.out 1).trans rfl; have hcz11_2 : w8.cell? ⟨gb420, 2, none⟩ = some (.int .i64 0) := (blk_cell BK420.out 2).trans rfl; have hcz11_3 : w8.cell? ⟨gb420, 3, none⟩ = some (.slice none 0 0) := (blk_cell BK420.out 3).trans rfl; have hfz11_0 := blk_frozen BK420.out 0; have hfz11_1 := blk_frozen BK420.out 1; have hfz11_2 := blk_frozen BK420.out 2; have hfz11_3 := blk_frozen BK420.out 3; obtain ⟨Ao12, co12, eo12⟩ := Kd.R_slice HO417.out; subst eo12))
 (try simp only [Act.put, List.setIfInBounds_toArray, List.set_cons_zero, List.set_cons_succ])
 have H := HC6.out
 clear HC6
 obtain ⟨⟨t421, t422, t423⟩, A13, H⟩ := zB H
 try dsimp only at H
 have HC14 := zA H
 clear H
 go_upto_region 3 with (first | ((with_reducible refine gate_callee (f := 131) rfl ?_); refine goesL_ (some 7) rfl rfl Try.func131 (by kernel_rfl) rfl #[.pointer (some ⟨g, 0, none⟩), .int .i64 10] rfl zq1 ?_; (with_reducible refine (spec_l1Below.calls g s0_0 t418 t419 10 t421 t422 t423 w0 _ ?side1 ?side2 A13.out).mono ?_); (case side1 => repeat (first | (with_reducible first | exact HI0.out | apply IsS170.alloc | apply IsS170.drewN | apply IsS170.drew | apply IsS170.set_1 | apply IsS170.set_2 | refine IsS170.far ?_ NB0_411.out _ | refine IsS170.far ?_ NB0_420.out _) | exact HI0.out)); (case side2 => repeat (first | (with_reducible first | exact HB.out | apply below_alloc | apply pw_below_drewN | apply below_drew1 | refine below_set ?_ (IsS170.ge HI0.out) | refine below_set ?_ GE411.out | refine below_set ?_ GE420.out) | exact HB.out)); rintro e w15 ⟨rfl, hi, hb, hk⟩; refine ⟨_, rfl, ?_⟩; replace BK411 := zA (KeepBut.blk hk (g' := gb411) (o := .cells #[.int .i64 0, .int .i64 0, .int .i64 0, .slice none 0 0] 54 (0, 0)) (by (with_reducible repeat (first | refine blk_drewN ?_ _ | refine blk_drew ?_ | refine blk_alloc ?_ _)); refine blk_far ?_ NB411_420.out _; (with_reducible repeat (first | refine blk_drewN ?_ _ | refine blk_drew ?_ | refine blk_alloc ?_ _)); refine blk_far ?_ NB411_420.out _; (with_reducible repeat (first | refine blk_drewN ?_ _ | refine blk_drew ?_ | refine blk_alloc ?_ _)); refine blk_far ?_ NB411_420.out _; (with_reducible repeat (first | refine blk_drewN ?_ _ | refine blk_drew ?_ | refine blk_alloc ?_ _)); refine blk_far ?_ NB411_420.out _; (with_reducible repeat (first | refine blk_drewN ?_ _ | refine blk_drew ?_ | refine blk_alloc ?_ _)); exact BK411.out) NB411_0.out zq125); replace HO417 := zA (Kd.R_mono (Kd.R_keep (IsS170.apart (show IsS170 w0 _ g s0_0 t418 t419 from by repeat (first | (with_reducible first | exact HI0.out | apply IsS170.alloc | apply IsS170.drewN | apply IsS170.drew | apply IsS170.set_1 | apply IsS170.set_2 | refine IsS170.far ?_ NB0_411.out _ | refine IsS170.far ?_ NB0_420.out _) | exact HI0.out)) (by (with_reducible repeat (first | apply Kd.R_alloc | apply Kd.R_drewN | apply Kd.R_drew)); exact (Kd.R_mono (Kd.R_far (p := ⟨gb420, 3, none⟩) (Kd.R_far (p := ⟨gb420, 2, none⟩) (Kd.R_far (p := ⟨gb420, 1, none⟩) (Kd.R_far (p := ⟨gb420, 0, none⟩) (Kd.R_types HO417.out BK420.out zq40) (fun _ hk => hk.2) (.int .i64 t412)) (fun _ hk => hk.2) (.int .i64 t413)) (fun _ hk => hk.2) (.int .i64 t414)) (fun _ hk => hk.2) (.slice Ao12 t415.length co12)) (fun _ h_ => h_.1))) zq40) hk (fun _ h => h.2)) (fun _ h => h.1)); replace BK420 := zA (KeepBut.blk hk (g' := gb420) (o := .cells #[.int .i64 t412, .int .i64 t413, .int .i64 t414, .slice Ao12 t415.length co12] 54 (0, 0)) (by (with_reducible repeat (first | refine blk_drewN ?_ _ | refine blk_drew ?_ | refine blk_alloc ?_ _)); refine blk_put (cs := #[.int .i64 t412, .int .i64 t413, .int .i64 t414, .slice none 0 0]) ?_ 3 _ rfl; (with_reducible repeat (first | refine blk_drewN ?_ _ | refine blk_drew ?_ | refine blk_alloc ?_ _)); refine blk_put (cs := #[.int .i64 t412, .int .i64 t413, .int .i64 0, .slice none 0 0]) ?_ 2 _ rfl; (with_reducible repeat (first | refine blk_drewN ?_ _ | refine blk_drew ?_ | refine blk_alloc ?_ _)); refine blk_put (cs := #[.int .i64 t412, .int .i64 0, .int .i64 0, .slice none 0 0]) ?_ 1 _ rfl; (with_reducible repeat (first | refine blk_drewN ?_ _ | refine blk_drew ?_ | refine blk_alloc ?_ _)); refine blk_put (cs := #[.int .i64 0, .int .i64 0, .int .i64 0, .slice none 0 0]) ?_ 0 _ rfl; (with_reducible repeat (first | refine blk_drewN ?_ _ | refine blk_drew ?_ | refine blk_alloc ?_ _)); exact BK420.out) NB420_0.out zq125); replace HK := zA (KeepBut.trans zq16 hk (.inl rfl)); replace HB := zA (hb); replace HI0 := zA (hi); clear hb hk hi))
 (try simp only [Act.put, List.setIfInBounds_toArray, List.set_cons_zero, List.set_cons_succ])
 have H := HC14.out
 clear HC14
 by_cases c16 : t421 = 0
 ·rw [if_pos c16] at H
  have c16b0 : (t421 == 0) = true := beq_iff_eq.mpr c16
  have c16b1 : (t421 != 0) = false := bne_eq_false_iff_eq.mpr c16
  clear c16
  have HC17 := zA H
  clear H
  go_upto_region 4 with (fail)
  have H := HC17.out
  clear HC17
  obtain ⟨y424, hy424⟩ : ∃ y_ : List Int, y_ = (([(-1), 9999, 10000] : List Int)) := ⟨_, rfl⟩
  rw [← hy424] at H
  have Ny424 := zA hy424
  clear hy424
  obtain ⟨⟨t427, t428, t429⟩, A18, H⟩ := zB H
  try dsimp only at H
  have HC19 := zA H
  clear H
  go_upto_region 11 with (first | ((with_reducible refine gate_dst (N := 11) rfl ?_); refine Kd.R_lit (Kd.int .i64) _ 3 ?hg (N := 11) ?hd (xs := ([(-1), 9999, 10000] : List Int)) (inner := [.int .i64 (-1), .int .i64 9999, .int .i64 10000]) (ok := fun _ => True) (okp := fun _ => True) ?hr ?hp (fun _ hk => hk) trivial (Below.refl _ _) (Nat.le_refl _) zq125 ?_; (case hd => rfl); (case hg => rfl); (case hr => first | (go_simp; done) | (go_simp; rfl)); (case hp => exact (Reps.one (show Kd.M (Kd.int .i64) _ _ _ (-1) [.int .i64 (-1)] from rfl) (Reps.one (show Kd.M (Kd.int .i64) _ _ _ 9999 [.int .i64 9999] from rfl) (Reps.one (show Kd.M (Kd.int .i64) _ _ _ 10000 [.int .i64 10000] from rfl) (Reps.none _ _))))); intro v425 w20 ho21 hb hg_ hnew_; clear hg_ hnew_; (first | rw [← Ny424.out] at ho21 | (simp only [Int.reduceToNat] at ho21; rw [← Ny424.out] at ho21)); replace HO417 := zA (Kd.R_below zq79 hb); have HO426 := zA (Kd.R_lower ho21 (keep_size (w := w) (g := g) (row := none) zq16)); replace BK411 := zA (blk_below (g := gb411) (o := .cells #[.int .i64 0, .int .i64 0, .int .i64 0, .slice none 0 0] 54 (0, 0)) zq59 hb); replace BK420 := zA (blk_below (g := gb420) (o := .cells #[.int .i64 t412, .int .i64 t413, .int .i64 t414, .slice Ao12 t415.length co12] 54 (0, 0)) zq93 hb); replace HK := zA (KeepBut.trans zq16 (KeepBut.of_below hb g none) (.inl rfl)); replace HB := zA (below_step zq42 hb); replace HI0 := zA (IsS170.below zq39 hb); clear hb ho21; obtain ⟨Ao22, co22, eo22⟩ := Kd.R_slice HO426.out; subst eo22) | ((with_reducible refine gate_callee (f := 140) rfl ?_); refine goesL_ (some 12) rfl rfl Try.func140 (by kernel_rfl) rfl #[.pointer (some ⟨g, 0, none⟩), .slice Ao22 y424.length co22] rfl zq1 ?_; (with_reducible refine (spec_l1Int.calls g s0_0 t422 t423 _ _ y424 t427 t428 t429 w0 _ ?side1 ?side2 ?side3 ?side4 ?side5 A18.out).mono ?_); (case side1 => repeat (first | (with_reducible first | exact HI0.out | apply IsS170.alloc | apply IsS170.drewN | apply IsS170.drew | apply IsS170.set_1 | apply IsS170.set_2 | refine IsS170.far ?_ NB0_411.out _ | refine IsS170.far ?_ NB0_420.out _) | exact HI0.out)); (case side2 => repeat (first | (with_reducible first | exact HB.out | apply below_alloc | apply pw_below_drewN | apply below_drew1 | refine below_set ?_ (IsS170.ge HI0.out) | refine below_set ?_ GE411.out | refine below_set ?_ GE420.out) | exact HB.out)); (case side3 => repeat (first | exact (Kd.R_reads' HO426.out).2.2 | (with_reducible refine Kd.C_alloc ?_ _) | (with_reducible refine Kd.C_drewN ?_ _) | (with_reducible refine Kd.C_drew ?_))); (case side4 => exact (Kd.R_reads' HO426.out).2.1); (case side5 => exact far_slice (IsS170.own_ne HI0.out HO426.out zq40)); rintro e w23 ⟨rfl, hi, hb, hk⟩; refine ⟨_, rfl, ?_⟩; replace BK411 := zA (KeepBut.blk hk (g' := gb411) (o := .cells #[.int .i64 0, .int .i64 0, .int .i64 0, .slice none 0 0] 54 (0, 0)) zq59 NB411_0.out zq125); replace HO417 := zA (Kd.R_mono (Kd.R_keep (IsS170.apart (show IsS170 w0 _ g s0_0 t422 t423 from by repeat (first | (with_reducible first | exact HI0.out | apply IsS170.alloc | apply IsS170.drewN | apply IsS170.drew | apply IsS170.set_1 | apply IsS170.set_2 | refine IsS170.far ?_ NB0_411.out _ | refine IsS170.far ?_ NB0_420.out _) | exact HI0.out)) zq79 zq40) hk (fun _ h => h.2)) (fun _ h => h.1)); replace BK420 := zA (KeepBut.blk hk (g' := gb420) (o := .cells #[.int .i64 t412, .int .i64 t413, .int .i64 t414, .slice Ao12 t415.length co12] 54 (0, 0)) zq93 NB420_0.out zq125); replace HO426 := zA (Kd.R_mono (Kd.R_keep (IsS170.apart (show IsS170 w0 _ g s0_0 t422 t423 from by repeat (first | (with_reducible first | exact HI0.out | apply IsS170.alloc | apply IsS170.drewN | apply IsS170.drew | apply IsS170.set_1 | apply IsS170.set_2 | refine IsS170.far ?_ NB0_411.out _ | refine IsS170.far ?_ NB0_420.out _) | exact HI0.out)) (by (with_reducible repeat (first | apply Kd.R_alloc | apply Kd.R_drewN | apply Kd.R_drew)); exact HO426.out) zq40) hk (fun _ h => h.2)) (fun _ h => h.1)); replace HK := zA (KeepBut.trans zq16 hk (.inl rfl)); replace HB := zA (hb); replace HI0 := zA (hi); clear hb hk hi; have hnb24 := NB420_411.out; have hnc24 := NB411_420.out; have hnb25 := NB420_0.out; have hnc25 := NB0_420.out; have hcz26_0 : w23.cell? ⟨gb420, 0, none⟩ = some (.int .i64 t412) := (blk_cell BK420.out 0).trans rfl; have hcz26_1 : w23.cell? ⟨gb420, 1, none⟩ = some (.int .i64 t413) := (blk_cell BK420.out 1).trans rfl; have hcz26_2 : w23.cell? ⟨gb420, 2, none⟩ = some (.int .i64 t414) := (blk_cell BK420.out 2).trans rfl; have hcz26_3 : w23.cell? ⟨gb420, 3, none⟩ = some (.slice Ao12 t415.length co12) := (blk_cell BK420.out 3).trans rfl; have hfz26_0 := blk_frozen BK420.out 0; have hfz26_1 := blk_frozen BK420.out 1; have hfz26_2 := blk_frozen BK420.out 2; have hfz26_3 := blk_frozen BK420.out 3))
  (try simp only [Act.put, List.setIfInBounds_toArray, List.set_cons_zero, List.set_cons_succ])
  have H := HC19.out
  clear HC19
  simp only [Option.some.injEq, Prod.mk.injEq] at H
  obtain ⟨rfl, rfl, rfl, rfl, rfl, rfl⟩ := H
  have hnb27 := NB420_411.out
  have hnc27 := NB411_420.out
  have hnb28 := NB420_0.out
  have hnc28 := NB0_420.out
  have hcz29_0 : w23.cell? ⟨gb420, 0, none⟩ = some (.int .i64 t412) := (blk_cell BK420.out 0).trans rfl
  have hcz29_1 : w23.cell? ⟨gb420, 1, none⟩ = some (.int .i64 t413) := (blk_cell BK420.out 1).trans rfl
  have hcz29_2 : w23.cell? ⟨gb420, 2, none⟩ = some (.int .i64 t414) := (blk_cell BK420.out 2).trans rfl
  have hcz29_3 : w23.cell? ⟨gb420, 3, none⟩ = some (.slice Ao12 t415.length co12) := (blk_cell BK420.out 3).trans rfl
  have hfz29_0 := blk_frozen BK420.out 0
  have hfz29_1 := blk_frozen BK420.out 1
  have hfz29_2 := blk_frozen BK420.out 2
  have hfz29_3 := blk_frozen BK420.out 3
  have hnb30 := NB411_0.out
  have hnc30 := NB0_411.out
  have hcz31_0 : w23.cell? ⟨gb411, 0, none⟩ = some (.int .i64 0) := (blk_cell BK411.out 0).trans rfl
  have hcz31_1 : w23.cell? ⟨gb411, 1, none⟩ = some (.int .i64 0) := (blk_cell BK411.out 1).trans rfl
  have hcz31_2 : w23.cell? ⟨gb411, 2, none⟩ = some (.int .i64 0) := (blk_cell BK411.out 2).trans rfl
  have hcz31_3 : w23.cell? ⟨gb411, 3, none⟩ = some (.slice none 0 0) := (blk_cell BK411.out 3).trans rfl
  have hfz31_0 := blk_frozen BK411.out 0
  have hfz31_1 := blk_frozen BK411.out 1
  have hfz31_2 := blk_frozen BK411.out 2
  have hfz31_3 := blk_frozen BK411.out 3
  go_wp2
  refine bodyPost_ret (results_cell_row rfl _ _ gb411 54 #[.int .i64 t427, .int .i64 t413, .int .i64 t414, .slice Ao12 t415.length co12] (0, 0) _ rfl (by (with_reducible repeat (first | refine blk_drewN ?_ _ | refine blk_drew ?_ | refine blk_alloc ?_ _)); refine blk_put (cs := #[.int .i64 t427, .int .i64 t413, .int .i64 t414, .slice none 0 0]) ?_ 3 _ rfl; (with_reducible repeat (first | refine blk_drewN ?_ _ | refine blk_drew ?_ | refine blk_alloc ?_ _)); refine blk_put (cs := #[.int .i64 t427, .int .i64 t413, .int .i64 0, .slice none 0 0]) ?_ 2 _ rfl; (with_reducible repeat (first | refine blk_drewN ?_ _ | refine blk_drew ?_ | refine blk_alloc ?_ _)); refine blk_put (cs := #[.int .i64 t427, .int .i64 0, .int .i64 0, .slice none 0 0]) ?_ 1 _ rfl; (with_reducible repeat (first | refine blk_drewN ?_ _ | refine blk_drew ?_ | refine blk_alloc ?_ _)); refine blk_put (cs := #[.int .i64 0, .int .i64 0, .int .i64 0, .slice none 0 0]) ?_ 0 _ rfl; (with_reducible repeat (first | refine blk_drewN ?_ _ | refine blk_drew ?_ | refine blk_alloc ?_ _)); refine blk_far ?_ NB411_420.out _; (with_reducible repeat (first | refine blk_drewN ?_ _ | refine blk_drew ?_ | refine blk_alloc ?_ _)); exact BK411.out) Try.underlying54 rfl (by kernel_rfl)) rfl ?_
  exact ⟨_, zq5, (by (with_reducible repeat (first | apply Kd.R_alloc | apply Kd.R_drewN | apply Kd.R_drew)); exact Kd.R_mono (Kd.R_far (p := ⟨gb411, 3, none⟩) (Kd.R_far (p := ⟨gb411, 2, none⟩) (Kd.R_far (p := ⟨gb411, 1, none⟩) (Kd.R_far (p := ⟨gb411, 0, none⟩) (Kd.R_far (p := ⟨gb420, 0, none⟩) (Kd.R_types (Kd.R_types HO417.out BK420.out zq40) BK411.out zq40) (fun _ hk => hk.1.2) (.int .i64 t427)) (fun _ hk => hk.2) (.int .i64 t427)) (fun _ hk => hk.2) (.int .i64 t413)) (fun _ hk => hk.2) (.int .i64 t414)) (fun _ hk => hk.2) (.slice Ao12 t415.length co12)) (fun _ hk => trivial)), zq39, zq42, zq16⟩
 ·rw [if_neg c16] at H
  have c16b0 : (t421 == 0) = false := beq_eq_false_iff_ne.mpr c16
  have c16b1 : (t421 != 0) = true := bne_iff_ne.mpr c16
  have HC32 := zA H
  clear H
  go_upto_region 5 with (fail)
  have H := HC32.out
  clear HC32
  by_cases c33 : t421 = 1
  ·rw [if_pos c33] at H
   have c33b0 : (t421 == 1) = true := beq_iff_eq.mpr c33
   have c33b1 : (t421 != 1) = false := bne_eq_false_iff_eq.mpr c33
   clear c33
   have HC34 := zA H
   clear H
   go_upto_region 6 with (fail)
   have H := HC34.out
   clear HC34
   obtain ⟨y430, hy430⟩ : ∃ y_ : List Int, y_ = (([0, 9999, 10000] : List Int)) := ⟨_, rfl⟩
   rw [← hy430] at H
   have Ny430 := zA hy430
   clear hy430
   obtain ⟨⟨t433, t434, t435⟩, A35, H⟩ := zB H
   try dsimp only at H
   have HC36 := zA H
   clear H
   go_upto_region 11 with (first | ((with_reducible refine gate_dst (N := 17) rfl ?_); refine Kd.R_lit (Kd.int .i64) _ 3 ?hg (N := 17) ?hd (xs := ([0, 9999, 10000] : List Int)) (inner := [.int .i64 0, .int .i64 9999, .int .i64 10000]) (ok := fun _ => True) (okp := fun _ => True) ?hr ?hp (fun _ hk => hk) trivial (Below.refl _ _) (Nat.le_refl _) zq125 ?_; (case hd => rfl); (case hg => rfl); (case hr => first | (go_simp; done) | (go_simp; rfl)); (case hp => exact (Reps.one (show Kd.M (Kd.int .i64) _ _ _ 0 [.int .i64 0] from rfl) (Reps.one (show Kd.M (Kd.int .i64) _ _ _ 9999 [.int .i64 9999] from rfl) (Reps.one (show Kd.M (Kd.int .i64) _ _ _ 10000 [.int .i64 10000] from rfl) (Reps.none _ _))))); intro v431 w37 ho38 hb hg_ hnew_; clear hg_ hnew_; (first | rw [← Ny430.out] at ho38 | (simp only [Int.reduceToNat] at ho38; rw [← Ny430.out] at ho38)); replace HO417 := zA (Kd.R_below zq79 hb); have HO432 := zA (Kd.R_lower ho38 (keep_size (w := w) (g := g) (row := none) zq16)); replace BK411 := zA (blk_below (g := gb411) (o := .cells #[.int .i64 0, .int .i64 0, .int .i64 0, .slice none 0 0] 54 (0, 0)) zq59 hb); replace BK420 := zA (blk_below (g := gb420) (o := .cells #[.int .i64 t412, .int .i64 t413, .int .i64 t414, .slice Ao12 t415.length co12] 54 (0, 0)) zq93 hb); replace HK := zA (KeepBut.trans zq16 (KeepBut.of_below hb g none) (.inl rfl)); replace HB := zA (below_step zq42 hb); replace HI0 := zA (IsS170.below zq39 hb); clear hb ho38; obtain ⟨Ao39, co39, eo39⟩ := Kd.R_slice HO432.out; subst eo39) | ((with_reducible refine gate_callee (f := 140) rfl ?_); refine goesL_ (some 18) rfl rfl Try.func140 (by kernel_rfl) rfl #[.pointer (some ⟨g, 0, none⟩), .slice Ao39 y430.length co39] rfl zq1 ?_; (with_reducible refine (spec_l1Int.calls g s0_0 t422 t423 _ _ y430 t433 t434 t435 w0 _ ?side1 ?side2 ?side3 ?side4 ?side5 A35.out).mono ?_); (case side1 => repeat (first | (with_reducible first | exact HI0.out | apply IsS170.alloc | apply IsS170.drewN | apply IsS170.drew | apply IsS170.set_1 | apply IsS170.set_2 | refine IsS170.far ?_ NB0_411.out _ | refine IsS170.far ?_ NB0_420.out _) | exact HI0.out)); (case side2 => repeat (first | (with_reducible first | exact HB.out | apply below_alloc | apply pw_below_drewN | apply below_drew1 | refine below_set ?_ (IsS170.ge HI0.out) | refine below_set ?_ GE411.out | refine below_set ?_ GE420.out) | exact HB.out)); (case side3 => repeat (first | exact (Kd.R_reads' HO432.out).2.2 | (with_reducible refine Kd.C_alloc ?_ _) | (with_reducible refine Kd.C_drewN ?_ _) | (with_reducible refine Kd.C_drew ?_))); (case side4 => exact (Kd.R_reads' HO432.out).2.1); (case side5 => exact far_slice (IsS170.own_ne HI0.out HO432.out zq40)); rintro e w40 ⟨rfl, hi, hb, hk⟩; refine ⟨_, rfl, ?_⟩; replace BK411 := zA (KeepBut.blk hk (g' := gb411) (o := .cells #[.int .i64 0, .int .i64 0, .int .i64 0, .slice none 0 0] 54 (0, 0)) zq59 NB411_0.out zq125); replace HO417 := zA (Kd.R_mono (Kd.R_keep (IsS170.apart (show IsS170 w0 _ g s0_0 t422 t423 from by repeat (first | (with_reducible first | exact HI0.out | apply IsS170.alloc | apply IsS170.drewN | apply IsS170.drew | apply IsS170.set_1 | apply IsS170.set_2 | refine IsS170.far ?_ NB0_411.out _ | refine IsS170.far ?_ NB0_420.out _) | exact HI0.out)) zq79 zq40) hk (fun _ h => h.2)) (fun _ h => h.1)); replace BK420 := zA (KeepBut.blk hk (g' := gb420) (o := .cells #[.int .i64 t412, .int .i64 t413, .int .i64 t414, .slice Ao12 t415.length co12] 54 (0, 0)) zq93 NB420_0.out zq125); replace HO432 := zA (Kd.R_mono (Kd.R_keep (IsS170.apart (show IsS170 w0 _ g s0_0 t422 t423 from by repeat (first | (with_reducible first | exact HI0.out | apply IsS170.alloc | apply IsS170.drewN | apply IsS170.drew | apply IsS170.set_1 | apply IsS170.set_2 | refine IsS170.far ?_ NB0_411.out _ | refine IsS170.far ?_ NB0_420.out _) | exact HI0.out)) (by (with_reducible repeat (first | apply Kd.R_alloc | apply Kd.R_drewN | apply Kd.R_drew)); exact HO432.out) zq40) hk (fun _ h => h.2)) (fun _ h => h.1)); replace HK := zA (KeepBut.trans zq16 hk (.inl rfl)); replace HB := zA (hb); replace HI0 := zA (hi); clear hb hk hi; have hnb41 := NB420_411.out; have hnc41 := NB411_420.out; have hnb42 := NB420_0.out; have hnc42 := NB0_420.out; have hcz43_0 : w40.cell? ⟨gb420, 0, none⟩ = some (.int .i64 t412) := (blk_cell BK420.out 0).trans rfl; have hcz43_1 : w40.cell? ⟨gb420, 1, none⟩ = some (.int .i64 t413) := (blk_cell BK420.out 1).trans rfl; have hcz43_2 : w40.cell? ⟨gb420, 2, none⟩ = some (.int .i64 t414) := (blk_cell BK420.out 2).trans rfl; have hcz43_3 : w40.cell? ⟨gb420, 3, none⟩ = some (.slice Ao12 t415.length co12) := (blk_cell BK420.out 3).trans rfl; have hfz43_0 := blk_frozen BK420.out 0; have hfz43_1 := blk_frozen BK420.out 1; have hfz43_2 := blk_frozen BK420.out 2; have hfz43_3 := blk_frozen BK420.out 3))
   (try simp only [Act.put, List.setIfInBounds_toArray, List.set_cons_zero, List.set_cons_succ])
   have H := HC36.out
   clear HC36
   simp only [Option.some.injEq, Prod.mk.injEq] at H
   obtain ⟨rfl, rfl, rfl, rfl, rfl, rfl⟩ := H
   have hnb44 := NB420_411.out
   have hnc44 := NB411_420.out
   have hnb45 := NB420_0.out
   have hnc45 := NB0_420.out
   have hcz46_0 : w40.cell? ⟨gb420, 0, none⟩ = some (.int .i64 t412) := (blk_cell BK420.out 0).trans rfl
   have hcz46_1 : w40.cell? ⟨gb420, 1, none⟩ = some (.int .i64 t413) := (blk_cell BK420.out 1).trans rfl
   have hcz46_2 : w40.cell? ⟨gb420, 2, none⟩ = some (.int .i64 t414) := (blk_cell BK420.out 2).trans rfl
   have hcz46_3 : w40.cell? ⟨gb420, 3, none⟩ = some (.slice Ao12 t415.length co12) := (blk_cell BK420.out 3).trans rfl
   have hfz46_0 := blk_frozen BK420.out 0
   have hfz46_1 := blk_frozen BK420.out 1
   have hfz46_2 := blk_frozen BK420.out 2
   have hfz46_3 := blk_frozen BK420.out 3
   have hnb47 := NB411_0.out
   have hnc47 := NB0_411.out
   have hcz48_0 : w40.cell? ⟨gb411, 0, none⟩ = some (.int .i64 0) := (blk_cell BK411.out 0).trans rfl
   have hcz48_1 : w40.cell? ⟨gb411, 1, none⟩ = some (.int .i64 0) := (blk_cell BK411.out 1).trans rfl
   have hcz48_2 : w40.cell? ⟨gb411, 2, none⟩ = some (.int .i64 0) := (blk_cell BK411.out 2).trans rfl
   have hcz48_3 : w40.cell? ⟨gb411, 3, none⟩ = some (.slice none 0 0) := (blk_cell BK411.out 3).trans rfl
   have hfz48_0 := blk_frozen BK411.out 0
   have hfz48_1 := blk_frozen BK411.out 1
   have hfz48_2 := blk_frozen BK411.out 2
   have hfz48_3 := blk_frozen BK411.out 3
   go_wp2
   refine bodyPost_ret (results_cell_row rfl _ _ gb411 54 #[.int .i64 t412, .int .i64 t433, .int .i64 t414, .slice Ao12 t415.length co12] (0, 0) _ rfl (by (with_reducible repeat (first | refine blk_drewN ?_ _ | refine blk_drew ?_ | refine blk_alloc ?_ _)); refine blk_put (cs := #[.int .i64 t412, .int .i64 t433, .int .i64 t414, .slice none 0 0]) ?_ 3 _ rfl; (with_reducible repeat (first | refine blk_drewN ?_ _ | refine blk_drew ?_ | refine blk_alloc ?_ _)); refine blk_put (cs := #[.int .i64 t412, .int .i64 t433, .int .i64 0, .slice none 0 0]) ?_ 2 _ rfl; (with_reducible repeat (first | refine blk_drewN ?_ _ | refine blk_drew ?_ | refine blk_alloc ?_ _)); refine blk_put (cs := #[.int .i64 t412, .int .i64 0, .int .i64 0, .slice none 0 0]) ?_ 1 _ rfl; (with_reducible repeat (first | refine blk_drewN ?_ _ | refine blk_drew ?_ | refine blk_alloc ?_ _)); refine blk_put (cs := #[.int .i64 0, .int .i64 0, .int .i64 0, .slice none 0 0]) ?_ 0 _ rfl; (with_reducible repeat (first | refine blk_drewN ?_ _ | refine blk_drew ?_ | refine blk_alloc ?_ _)); refine blk_far ?_ NB411_420.out _; (with_reducible repeat (first | refine blk_drewN ?_ _ | refine blk_drew ?_ | refine blk_alloc ?_ _)); exact BK411.out) Try.underlying54 rfl (by kernel_rfl)) rfl ?_
   exact ⟨_, zq5, (by (with_reducible repeat (first | apply Kd.R_alloc | apply Kd.R_drewN | apply Kd.R_drew)); exact Kd.R_mono (Kd.R_far (p := ⟨gb411, 3, none⟩) (Kd.R_far (p := ⟨gb411, 2, none⟩) (Kd.R_far (p := ⟨gb411, 1, none⟩) (Kd.R_far (p := ⟨gb411, 0, none⟩) (Kd.R_far (p := ⟨gb420, 1, none⟩) (Kd.R_types (Kd.R_types HO417.out BK420.out zq40) BK411.out zq40) (fun _ hk => hk.1.2) (.int .i64 t433)) (fun _ hk => hk.2) (.int .i64 t412)) (fun _ hk => hk.2) (.int .i64 t433)) (fun _ hk => hk.2) (.int .i64 t414)) (fun _ hk => hk.2) (.slice Ao12 t415.length co12)) (fun _ hk => trivial)), zq39, zq42, zq16⟩
  ·rw [if_neg c33] at H
   have c33b0 : (t421 == 1) = false := beq_eq_false_iff_ne.mpr c33
   have c33b1 : (t421 != 1) = true := bne_iff_ne.mpr c33
   have HC49 := zA H
   clear H
   go_upto_region 7 with (fail)
   have H := HC49.out
   clear HC49
   by_cases c50 : t421 = 2
   ·rw [if_pos c50] at H
    have c50b0 : (t421 == 2) = true := beq_iff_eq.mpr c50
    have c50b1 : (t421 != 2) = false := bne_eq_false_iff_eq.mpr c50
    clear c50
    have HC51 := zA H
    clear H
    go_upto_region 8 with (fail)
    have H := HC51.out
    clear HC51
    obtain ⟨y436, hy436⟩ : ∃ y_ : List Int, y_ = (([(-1), 99, 100] : List Int)) := ⟨_, rfl⟩
    rw [← hy436] at H
    have Ny436 := zA hy436
    clear hy436
    obtain ⟨⟨t439, t440, t441⟩, A52, H⟩ := zB H
    try dsimp only at H
    have HC53 := zA H
    clear H
    go_upto_region 11 with (first | ((with_reducible refine gate_dst (N := 23) rfl ?_); refine Kd.R_lit (Kd.int .i64) _ 3 ?hg (N := 23) ?hd (xs := ([(-1), 99, 100] : List Int)) (inner := [.int .i64 (-1), .int .i64 99, .int .i64 100]) (ok := fun _ => True) (okp := fun _ => True) ?hr ?hp (fun _ hk => hk) trivial (Below.refl _ _) (Nat.le_refl _) zq125 ?_; (case hd => rfl); (case hg => rfl); (case hr => first | (go_simp; done) | (go_simp; rfl)); (case hp => exact (Reps.one (show Kd.M (Kd.int .i64) _ _ _ (-1) [.int .i64 (-1)] from rfl) (Reps.one (show Kd.M (Kd.int .i64) _ _ _ 99 [.int .i64 99] from rfl) (Reps.one (show Kd.M (Kd.int .i64) _ _ _ 100 [.int .i64 100] from rfl) (Reps.none _ _))))); intro v437 w54 ho55 hb hg_ hnew_; clear hg_ hnew_; (first | rw [← Ny436.out] at ho55 | (simp only [Int.reduceToNat] at ho55; rw [← Ny436.out] at ho55)); replace HO417 := zA (Kd.R_below zq79 hb); have HO438 := zA (Kd.R_lower ho55 (keep_size (w := w) (g := g) (row := none) zq16)); replace BK411 := zA (blk_below (g := gb411) (o := .cells #[.int .i64 0, .int .i64 0, .int .i64 0, .slice none 0 0] 54 (0, 0)) zq59 hb); replace BK420 := zA (blk_below (g := gb420) (o := .cells #[.int .i64 t412, .int .i64 t413, .int .i64 t414, .slice Ao12 t415.length co12] 54 (0, 0)) zq93 hb); replace HK := zA (KeepBut.trans zq16 (KeepBut.of_below hb g none) (.inl rfl)); replace HB := zA (below_step zq42 hb); replace HI0 := zA (IsS170.below zq39 hb); clear hb ho55; obtain ⟨Ao56, co56, eo56⟩ := Kd.R_slice HO438.out; subst eo56) | ((with_reducible refine gate_callee (f := 140) rfl ?_); refine goesL_ (some 24) rfl rfl Try.func140 (by kernel_rfl) rfl #[.pointer (some ⟨g, 0, none⟩), .slice Ao56 y436.length co56] rfl zq1 ?_; (with_reducible refine (spec_l1Int.calls g s0_0 t422 t423 _ _ y436 t439 t440 t441 w0 _ ?side1 ?side2 ?side3 ?side4 ?side5 A52.out).mono ?_); (case side1 => repeat (first | (with_reducible first | exact HI0.out | apply IsS170.alloc | apply IsS170.drewN | apply IsS170.drew | apply IsS170.set_1 | apply IsS170.set_2 | refine IsS170.far ?_ NB0_411.out _ | refine IsS170.far ?_ NB0_420.out _) | exact HI0.out)); (case side2 => repeat (first | (with_reducible first | exact HB.out | apply below_alloc | apply pw_below_drewN | apply below_drew1 | refine below_set ?_ (IsS170.ge HI0.out) | refine below_set ?_ GE411.out | refine below_set ?_ GE420.out) | exact HB.out)); (case side3 => repeat (first | exact (Kd.R_reads' HO438.out).2.2 | (with_reducible refine Kd.C_alloc ?_ _) | (with_reducible refine Kd.C_drewN ?_ _) | (with_reducible refine Kd.C_drew ?_))); (case side4 => exact (Kd.R_reads' HO438.out).2.1); (case side5 => exact far_slice (IsS170.own_ne HI0.out HO438.out zq40)); rintro e w57 ⟨rfl, hi, hb, hk⟩; refine ⟨_, rfl, ?_⟩; replace BK411 := zA (KeepBut.blk hk (g' := gb411) (o := .cells #[.int .i64 0, .int .i64 0, .int .i64 0, .slice none 0 0] 54 (0, 0)) zq59 NB411_0.out zq125); replace HO417 := zA (Kd.R_mono (Kd.R_keep (IsS170.apart (show IsS170 w0 _ g s0_0 t422 t423 from by repeat (first | (with_reducible first | exact HI0.out | apply IsS170.alloc | apply IsS170.drewN | apply IsS170.drew | apply IsS170.set_1 | apply IsS170.set_2 | refine IsS170.far ?_ NB0_411.out _ | refine IsS170.far ?_ NB0_420.out _) | exact HI0.out)) zq79 zq40) hk (fun _ h => h.2)) (fun _ h => h.1)); replace BK420 := zA (KeepBut.blk hk (g' := gb420) (o := .cells #[.int .i64 t412, .int .i64 t413, .int .i64 t414, .slice Ao12 t415.length co12] 54 (0, 0)) zq93 NB420_0.out zq125); replace HO438 := zA (Kd.R_mono (Kd.R_keep (IsS170.apart (show IsS170 w0 _ g s0_0 t422 t423 from by repeat (first | (with_reducible first | exact HI0.out | apply IsS170.alloc | apply IsS170.drewN | apply IsS170.drew | apply IsS170.set_1 | apply IsS170.set_2 | refine IsS170.far ?_ NB0_411.out _ | refine IsS170.far ?_ NB0_420.out _) | exact HI0.out)) (by (with_reducible repeat (first | apply Kd.R_alloc | apply Kd.R_drewN | apply Kd.R_drew)); exact HO438.out) zq40) hk (fun _ h => h.2)) (fun _ h => h.1)); replace HK := zA (KeepBut.trans zq16 hk (.inl rfl)); replace HB := zA (hb); replace HI0 := zA (hi); clear hb hk hi; have hnb58 := NB420_411.out; have hnc58 := NB411_420.out; have hnb59 := NB420_0.out; have hnc59 := NB0_420.out; have hcz60_0 : w57.cell? ⟨gb420, 0, none⟩ = some (.int .i64 t412) := (blk_cell BK420.out 0).trans rfl; have hcz60_1 : w57.cell? ⟨gb420, 1, none⟩ = some (.int .i64 t413) := (blk_cell BK420.out 1).trans rfl; have hcz60_2 : w57.cell? ⟨gb420, 2, none⟩ = some (.int .i64 t414) := (blk_cell BK420.out 2).trans rfl; have hcz60_3 : w57.cell? ⟨gb420, 3, none⟩ = some (.slice Ao12 t415.length co12) := (blk_cell BK420.out 3).trans rfl; have hfz60_0 := blk_frozen BK420.out 0; have hfz60_1 := blk_frozen BK420.out 1; have hfz60_2 := blk_frozen BK420.out 2; have hfz60_3 := blk_frozen BK420.out 3))
    (try simp only [Act.put, List.setIfInBounds_toArray, List.set_cons_zero, List.set_cons_succ])
    have H := HC53.out
    clear HC53
    simp only [Option.some.injEq, Prod.mk.injEq] at H
    obtain ⟨rfl, rfl, rfl, rfl, rfl, rfl⟩ := H
    have hnb61 := NB420_411.out
    have hnc61 := NB411_420.out
    have hnb62 := NB420_0.out
    have hnc62 := NB0_420.out
    have hcz63_0 : w57.cell? ⟨gb420, 0, none⟩ = some (.int .i64 t412) := (blk_cell BK420.out 0).trans rfl
    have hcz63_1 : w57.cell? ⟨gb420, 1, none⟩ = some (.int .i64 t413) := (blk_cell BK420.out 1).trans rfl
    have hcz63_2 : w57.cell? ⟨gb420, 2, none⟩ = some (.int .i64 t414) := (blk_cell BK420.out 2).trans rfl
    have hcz63_3 : w57.cell? ⟨gb420, 3, none⟩ = some (.slice Ao12 t415.length co12) := (blk_cell BK420.out 3).trans rfl
    have hfz63_0 := blk_frozen BK420.out 0
    have hfz63_1 := blk_frozen BK420.out 1
    have hfz63_2 := blk_frozen BK420.out 2
    have hfz63_3 := blk_frozen BK420.out 3
    have hnb64 := NB411_0.out
    have hnc64 := NB0_411.out
    have hcz65_0 : w57.cell? ⟨gb411, 0, none⟩ = some (.int .i64 0) := (blk_cell BK411.out 0).trans rfl
    have hcz65_1 : w57.cell? ⟨gb411, 1, none⟩ = some (.int .i64 0) := (blk_cell BK411.out 1).trans rfl
    have hcz65_2 : w57.cell? ⟨gb411, 2, none⟩ = some (.int .i64 0) := (blk_cell BK411.out 2).trans rfl
    have hcz65_3 : w57.cell? ⟨gb411, 3, none⟩ = some (.slice none 0 0) := (blk_cell BK411.out 3).trans rfl
    have hfz65_0 := blk_frozen BK411.out 0
    have hfz65_1 := blk_frozen BK411.out 1
    have hfz65_2 := blk_frozen BK411.out 2
    have hfz65_3 := blk_frozen BK411.out 3
    go_wp2
    refine bodyPost_ret (results_cell_row rfl _ _ gb411 54 #[.int .i64 t412, .int .i64 t413, .int .i64 t439, .slice Ao12 t415.length co12] (0, 0) _ rfl (by (with_reducible repeat (first | refine blk_drewN ?_ _ | refine blk_drew ?_ | refine blk_alloc ?_ _)); refine blk_put (cs := #[.int .i64 t412, .int .i64 t413, .int .i64 t439, .slice none 0 0]) ?_ 3 _ rfl; (with_reducible repeat (first | refine blk_drewN ?_ _ | refine blk_drew ?_ | refine blk_alloc ?_ _)); refine blk_put (cs := #[.int .i64 t412, .int .i64 t413, .int .i64 0, .slice none 0 0]) ?_ 2 _ rfl; (with_reducible repeat (first | refine blk_drewN ?_ _ | refine blk_drew ?_ | refine blk_alloc ?_ _)); refine blk_put (cs := #[.int .i64 t412, .int .i64 0, .int .i64 0, .slice none 0 0]) ?_ 1 _ rfl; (with_reducible repeat (first | refine blk_drewN ?_ _ | refine blk_drew ?_ | refine blk_alloc ?_ _)); refine blk_put (cs := #[.int .i64 0, .int .i64 0, .int .i64 0, .slice none 0 0]) ?_ 0 _ rfl; (with_reducible repeat (first | refine blk_drewN ?_ _ | refine blk_drew ?_ | refine blk_alloc ?_ _)); refine blk_far ?_ NB411_420.out _; (with_reducible repeat (first | refine blk_drewN ?_ _ | refine blk_drew ?_ | refine blk_alloc ?_ _)); exact BK411.out) Try.underlying54 rfl (by kernel_rfl)) rfl ?_
    exact ⟨_, zq5, (by (with_reducible repeat (first | apply Kd.R_alloc | apply Kd.R_drewN | apply Kd.R_drew)); exact Kd.R_mono (Kd.R_far (p := ⟨gb411, 3, none⟩) (Kd.R_far (p := ⟨gb411, 2, none⟩) (Kd.R_far (p := ⟨gb411, 1, none⟩) (Kd.R_far (p := ⟨gb411, 0, none⟩) (Kd.R_far (p := ⟨gb420, 2, none⟩) (Kd.R_types (Kd.R_types HO417.out BK420.out zq40) BK411.out zq40) (fun _ hk => hk.1.2) (.int .i64 t439)) (fun _ hk => hk.2) (.int .i64 t412)) (fun _ hk => hk.2) (.int .i64 t413)) (fun _ hk => hk.2) (.int .i64 t439)) (fun _ hk => hk.2) (.slice Ao12 t415.length co12)) (fun _ hk => trivial)), zq39, zq42, zq16⟩
   ·rw [if_neg c50] at H
    have c50b0 : (t421 == 2) = false := beq_eq_false_iff_ne.mpr c50
    have c50b1 : (t421 != 2) = true := bne_iff_ne.mpr c50
    have HC66 := zA H
    clear H
    go_upto_region 9 with (fail)
    have H := HC66.out
    clear HC66
    by_cases c67 : t421 = 3
    ·rw [if_pos c67] at H
     have c67b0 : (t421 == 3) = true := beq_iff_eq.mpr c67
     have c67b1 : (t421 != 3) = false := bne_eq_false_iff_eq.mpr c67
     clear c67
     have HC68 := zA H
     clear H
     go_upto_region 10 with (fail)
     have H := HC68.out
     clear HC68
     obtain ⟨⟨t442, t443, t444⟩, A69, H⟩ := zB H
     try dsimp only at H
     obtain ⟨ji70, hji70⟩ : ∃ j_ : Int, (wrap64 (20 + t442)) = j_ := ⟨_, rfl⟩
     replace H : (if 0 ≤ (ji70) then (if (ji70 : Int).toNat ≤ 281474976710656 then (some (t412, t413, t414, (List.replicate (ji70 : Int).toNat 0), t443, t444)) else (none)) else (none)) = some (r1, r2, r3, r4, r5, r6) := by first | (rw [hji70] at H; exact H) | (simp only [hji70] at H ⊢; exact H)
     (try rw [hji70] at A69)
     have hji70w : (IntKind.i64.wrap (20 + t442)) = ji70 := (i64_w _).trans hji70
     obtain ⟨c71, H⟩ := zN H
     have c71b0 := eq_true c71
     have c71b1 : decide (0 ≤ (ji70)) = true := decide_eq_true c71
     clear c71
     obtain ⟨c72, H⟩ := zN H
     have c72b0 := eq_true c72
     have c72b1 : decide ((ji70 : Int).toNat ≤ 281474976710656) = true := decide_eq_true c72
     clear c72
     obtain ⟨y445, hy445⟩ : ∃ y_ : List Int, y_ = (List.replicate (ji70 : Int).toNat 0) := ⟨_, rfl⟩
     rw [← hy445] at H
     have Ny445 := zA hy445
     clear hy445
     have HC73 := zA H
     clear H
     go_upto_region 11 with (first | ((with_reducible refine gate_callee (f := 131) rfl ?_); refine goesL_ (some 29) rfl rfl Try.func131 (by kernel_rfl) rfl #[.pointer (some ⟨g, 0, none⟩), .int .i64 2] rfl zq1 ?_; (with_reducible refine (spec_l1Below.calls g s0_0 t422 t423 2 t442 t443 t444 w0 _ ?side1 ?side2 A69.out).mono ?_); (case side1 => repeat (first | (with_reducible first | exact HI0.out | apply IsS170.alloc | apply IsS170.drewN | apply IsS170.drew | apply IsS170.set_1 | apply IsS170.set_2 | refine IsS170.far ?_ NB0_411.out _ | refine IsS170.far ?_ NB0_420.out _) | exact HI0.out)); (case side2 => repeat (first | (with_reducible first | exact HB.out | apply below_alloc | apply pw_below_drewN | apply below_drew1 | refine below_set ?_ (IsS170.ge HI0.out) | refine below_set ?_ GE411.out | refine below_set ?_ GE420.out) | exact HB.out)); rintro e w74 ⟨rfl, hi, hb, hk⟩; refine ⟨_, rfl, ?_⟩; replace BK411 := zA (KeepBut.blk hk (g' := gb411) (o := .cells #[.int .i64 0, .int .i64 0, .int .i64 0, .slice none 0 0] 54 (0, 0)) zq59 NB411_0.out zq125); replace HO417 := zA (Kd.R_mono (Kd.R_keep (IsS170.apart (show IsS170 w0 _ g s0_0 t422 t423 from by repeat (first | (with_reducible first | exact HI0.out | apply IsS170.alloc | apply IsS170.drewN | apply IsS170.drew | apply IsS170.set_1 | apply IsS170.set_2 | refine IsS170.far ?_ NB0_411.out _ | refine IsS170.far ?_ NB0_420.out _) | exact HI0.out)) zq79 zq40) hk (fun _ h => h.2)) (fun _ h => h.1)); replace BK420 := zA (KeepBut.blk hk (g' := gb420) (o := .cells #[.int .i64 t412, .int .i64 t413, .int .i64 t414, .slice Ao12 t415.length co12] 54 (0, 0)) zq93 NB420_0.out zq125); replace HK := zA (KeepBut.trans zq16 hk (.inl rfl)); replace HB := zA (hb); replace HI0 := zA (hi); clear hb hk hi) | ((with_reducible refine gate_dst (N := 31) rfl ?_); refine Kd.R_make (Kd.int .u8) _ 5 rfl (N := 31) rfl 22 _ _ rfl ji70 rfl rfl Try.underlying22 (.int .u8 0) 1 info5 rfl zq40 zq177 0 (ok := fun _ => True) (okp := fun _ => True) rfl (fun _ hk => hk) trivial (of_decide_eq_true zq17) (Nat.le_trans (Nat.mul_le_mul_right _ (of_decide_eq_true zq17 : ji70.toNat ≤ 281474976710656)) zq177) (Below.refl _ _) (Nat.le_refl _) ?_; intro v446 w75 ho76 hb hg_ hnew_; clear hg_ hnew_; (first | rw [← Ny445.out] at ho76 | (simp only [Int.reduceToNat] at ho76; rw [← Ny445.out] at ho76)); have HO447 := zA (Kd.R_lower (Kd.R_new' ho76 (Kd.R_lt zq79)) (keep_size (w := w) (g := g) (row := none) zq16)); replace HO417 := zA (Kd.R_elder' zq79 (Kd.R_base ho76) hb); replace BK411 := zA (blk_below (g := gb411) (o := .cells #[.int .i64 0, .int .i64 0, .int .i64 0, .slice none 0 0] 54 (0, 0)) zq59 hb); replace BK420 := zA (blk_below (g := gb420) (o := .cells #[.int .i64 t412, .int .i64 t413, .int .i64 t414, .slice Ao12 t415.length co12] 54 (0, 0)) zq93 hb); replace HK := zA (KeepBut.trans zq16 (KeepBut.of_below hb g none) (.inl rfl)); replace HB := zA (below_step zq42 hb); replace HI0 := zA (IsS170.below zq39 hb); clear hb ho76; obtain ⟨Ao77, co77, eo77⟩ := Kd.R_slice HO447.out; subst eo77; have hnb78 := NB420_411.out; have hnc78 := NB411_420.out; have hnb79 := NB420_0.out; have hnc79 := NB0_420.out; have hcz80_0 : w75.cell? ⟨gb420, 0, none⟩ = some (.int .i64 t412) := (blk_cell BK420.out 0).trans rfl; have hcz80_1 : w75.cell? ⟨gb420, 1, none⟩ = some (.int .i64 t413) := (blk_cell BK420.out 1).trans rfl; have hcz80_2 : w75.cell? ⟨gb420, 2, none⟩ = some (.int .i64 t414) := (blk_cell BK420.out 2).trans rfl; have hcz80_3 : w75.cell? ⟨gb420, 3, none⟩ = some (.slice Ao12 t415.length co12) := (blk_cell BK420.out 3).trans rfl; have hfz80_0 := blk_frozen BK420.out 0; have hfz80_1 := blk_frozen BK420.out 1; have hfz80_2 := blk_frozen BK420.out 2; have hfz80_3 := blk_frozen BK420.out 3))
     (try simp only [Act.put, List.setIfInBounds_toArray, List.set_cons_zero, List.set_cons_succ])
     have H := HC73.out
     clear HC73
     simp only [Option.some.injEq, Prod.mk.injEq] at H
     obtain ⟨rfl, rfl, rfl, rfl, rfl, rfl⟩ := H
     have hnb81 := NB420_411.out
     have hnc81 := NB411_420.out
     have hnb82 := NB420_0.out
     have hnc82 := NB0_420.out
     have hcz83_0 : w75.cell? ⟨gb420, 0, none⟩ = some (.int .i64 t412) := (blk_cell BK420.out 0).trans rfl
     have hcz83_1 : w75.cell? ⟨gb420, 1, none⟩ = some (.int .i64 t413) := (blk_cell BK420.out 1).trans rfl
     have hcz83_2 : w75.cell? ⟨gb420, 2, none⟩ = some (.int .i64 t414) := (blk_cell BK420.out 2).trans rfl
     have hcz83_3 : w75.cell? ⟨gb420, 3, none⟩ = some (.slice Ao12 t415.length co12) := (blk_cell BK420.out 3).trans rfl
     have hfz83_0 := blk_frozen BK420.out 0
     have hfz83_1 := blk_frozen BK420.out 1
     have hfz83_2 := blk_frozen BK420.out 2
     have hfz83_3 := blk_frozen BK420.out 3
     have hnb84 := NB411_0.out
     have hnc84 := NB0_411.out
     have hcz85_0 : w75.cell? ⟨gb411, 0, none⟩ = some (.int .i64 0) := (blk_cell BK411.out 0).trans rfl
     have hcz85_1 : w75.cell? ⟨gb411, 1, none⟩ = some (.int .i64 0) := (blk_cell BK411.out 1).trans rfl
     have hcz85_2 : w75.cell? ⟨gb411, 2, none⟩ = some (.int .i64 0) := (blk_cell BK411.out 2).trans rfl
     have hcz85_3 : w75.cell? ⟨gb411, 3, none⟩ = some (.slice none 0 0) := (blk_cell BK411.out 3).trans rfl
     have hfz85_0 := blk_frozen BK411.out 0
     have hfz85_1 := blk_frozen BK411.out 1
     have hfz85_2 := blk_frozen BK411.out 2
     have hfz85_3 := blk_frozen BK411.out 3
     go_wp2
     refine bodyPost_ret (results_cell_row rfl _ _ gb411 54 #[.int .i64 t412, .int .i64 t413, .int .i64 t414, .slice Ao77 y445.length co77] (0, 0) _ rfl (by (with_reducible repeat (first | refine blk_drewN ?_ _ | refine blk_drew ?_ | refine blk_alloc ?_ _)); refine blk_put (cs := #[.int .i64 t412, .int .i64 t413, .int .i64 t414, .slice none 0 0]) ?_ 3 _ rfl; (with_reducible repeat (first | refine blk_drewN ?_ _ | refine blk_drew ?_ | refine blk_alloc ?_ _)); refine blk_put (cs := #[.int .i64 t412, .int .i64 t413, .int .i64 0, .slice none 0 0]) ?_ 2 _ rfl; (with_reducible repeat (first | refine blk_drewN ?_ _ | refine blk_drew ?_ | refine blk_alloc ?_ _)); refine blk_put (cs := #[.int .i64 t412, .int .i64 0, .int .i64 0, .slice none 0 0]) ?_ 1 _ rfl; (with_reducible repeat (first | refine blk_drewN ?_ _ | refine blk_drew ?_ | refine blk_alloc ?_ _)); refine blk_put (cs := #[.int .i64 0, .int .i64 0, .int .i64 0, .slice none 0 0]) ?_ 0 _ rfl; (with_reducible repeat (first | refine blk_drewN ?_ _ | refine blk_drew ?_ | refine blk_alloc ?_ _)); refine blk_far ?_ NB411_420.out _; (with_reducible repeat (first | refine blk_drewN ?_ _ | refine blk_drew ?_ | refine blk_alloc ?_ _)); exact BK411.out) Try.underlying54 rfl (by kernel_rfl)) rfl ?_
     exact ⟨_, (by first | rfl | (simp [errW_none, errW_some] <;> rfl) | (simp only [← hji70]; first | rfl | (simp [errW_none, errW_some] <;> rfl)) | (simp [*, errW_none, errW_some] <;> rfl)), (by (with_reducible repeat (first | apply Kd.R_alloc | apply Kd.R_drewN | apply Kd.R_drew)); exact Kd.R_mono (Kd.R_far (p := ⟨gb411, 3, none⟩) (Kd.R_far (p := ⟨gb411, 2, none⟩) (Kd.R_far (p := ⟨gb411, 1, none⟩) (Kd.R_far (p := ⟨gb411, 0, none⟩) (Kd.R_far (p := ⟨gb420, 3, none⟩) (Kd.R_types (Kd.R_types HO447.out BK420.out zq40) BK411.out zq40) (fun _ hk => hk.1.2) (.slice Ao77 y445.length co77)) (fun _ hk => hk.2) (.int .i64 t412)) (fun _ hk => hk.2) (.int .i64 t413)) (fun _ hk => hk.2) (.int .i64 t414)) (fun _ hk => hk.2) (.slice Ao77 y445.length co77)) (fun _ hk => trivial)), zq39, zq42, zq16⟩
    ·rw [if_neg c67] at H
     have c67b0 : (t421 == 3) = false := beq_eq_false_iff_ne.mpr c67
     have c67b1 : (t421 != 3) = true := bne_iff_ne.mpr c67
     have HC86 := zA H
     clear H
     go_upto_region 11 with (fail)
     have H := HC86.out
     clear HC86
     simp only [Option.some.injEq, Prod.mk.injEq] at H
     obtain ⟨rfl, rfl, rfl, rfl, rfl, rfl⟩ := H
     have hnb87 := NB420_411.out
     have hnc87 := NB411_420.out
     have hnb88 := NB420_0.out
     have hnc88 := NB0_420.out
     have hcz89_0 : w15.cell? ⟨gb420, 0, none⟩ = some (.int .i64 t412) := (blk_cell BK420.out 0).trans rfl
     have hcz89_1 : w15.cell? ⟨gb420, 1, none⟩ = some (.int .i64 t413) := (blk_cell BK420.out 1).trans rfl
     have hcz89_2 : w15.cell? ⟨gb420, 2, none⟩ = some (.int .i64 t414) := (blk_cell BK420.out 2).trans rfl
     have hcz89_3 : w15.cell? ⟨gb420, 3, none⟩ = some (.slice Ao12 t415.length co12) := (blk_cell BK420.out 3).trans rfl
     have hfz89_0 := blk_frozen BK420.out 0
     have hfz89_1 := blk_frozen BK420.out 1
     have hfz89_2 := blk_frozen BK420.out 2
     have hfz89_3 := blk_frozen BK420.out 3
     have hnb90 := NB411_0.out
     have hnc90 := NB0_411.out
     have hcz91_0 : w15.cell? ⟨gb411, 0, none⟩ = some (.int .i64 0) := (blk_cell BK411.out 0).trans rfl
     have hcz91_1 : w15.cell? ⟨gb411, 1, none⟩ = some (.int .i64 0) := (blk_cell BK411.out 1).trans rfl
     have hcz91_2 : w15.cell? ⟨gb411, 2, none⟩ = some (.int .i64 0) := (blk_cell BK411.out 2).trans rfl
     have hcz91_3 : w15.cell? ⟨gb411, 3, none⟩ = some (.slice none 0 0) := (blk_cell BK411.out 3).trans rfl
     have hfz91_0 := blk_frozen BK411.out 0
     have hfz91_1 := blk_frozen BK411.out 1
     have hfz91_2 := blk_frozen BK411.out 2
     have hfz91_3 := blk_frozen BK411.out 3
     go_wp2
     refine bodyPost_ret (results_cell_row rfl _ _ gb411 54 #[.int .i64 t412, .int .i64 t413, .int .i64 t414, .slice Ao12 t415.length co12] (0, 0) _ rfl (by (with_reducible repeat (first | refine blk_drewN ?_ _ | refine blk_drew ?_ | refine blk_alloc ?_ _)); refine blk_put (cs := #[.int .i64 t412, .int .i64 t413, .int .i64 t414, .slice none 0 0]) ?_ 3 _ rfl; (with_reducible repeat (first | refine blk_drewN ?_ _ | refine blk_drew ?_ | refine blk_alloc ?_ _)); refine blk_put (cs := #[.int .i64 t412, .int .i64 t413, .int .i64 0, .slice none 0 0]) ?_ 2 _ rfl; (with_reducible repeat (first | refine blk_drewN ?_ _ | refine blk_drew ?_ | refine blk_alloc ?_ _)); refine blk_put (cs := #[.int .i64 t412, .int .i64 0, .int .i64 0, .slice none 0 0]) ?_ 1 _ rfl; (with_reducible repeat (first | refine blk_drewN ?_ _ | refine blk_drew ?_ | refine blk_alloc ?_ _)); refine blk_put (cs := #[.int .i64 0, .int .i64 0, .int .i64 0, .slice none 0 0]) ?_ 0 _ rfl; (with_reducible repeat (first | refine blk_drewN ?_ _ | refine blk_drew ?_ | refine blk_alloc ?_ _)); exact BK411.out) Try.underlying54 rfl (by kernel_rfl)) rfl ?_
     exact ⟨_, zq5, (by (with_reducible repeat (first | apply Kd.R_alloc | apply Kd.R_drewN | apply Kd.R_drew)); exact Kd.R_mono (Kd.R_far (p := ⟨gb411, 3, none⟩) (Kd.R_far (p := ⟨gb411, 2, none⟩) (Kd.R_far (p := ⟨gb411, 1, none⟩) (Kd.R_far (p := ⟨gb411, 0, none⟩) (Kd.R_types HO417.out BK411.out zq40) (fun _ hk => hk.2) (.int .i64 t412)) (fun _ hk => hk.2) (.int .i64 t413)) (fun _ hk => hk.2) (.int .i64 t414)) (fun _ hk => hk.2) (.slice Ao12 t415.length co12)) (fun _ hk => trivial)), zq39, zq42, zq16⟩

/-! ### spec_DrawPutFrame: function 74 -/
def spec_DrawPutFrame.f (k : Nat) (l0 : List Int) : Option (Int × Int × Int × List Int) := (spec_l1New.f k l0).bind fun bt449 => ((spec_l6Any.f k bt449.1 bt449.2.1 bt449.2.2).bind fun bt453 => (some (bt453.1, bt453.2.1, bt453.2.2.1, bt453.2.2.2.1)))
theorem spec_DrawPutFrame.mono : ∀ a0 k, LeO (spec_DrawPutFrame.f k a0) (spec_DrawPutFrame.f (k + 1) a0) := by
 intro a0 k
 unfold spec_DrawPutFrame.f
 have m0_ := @spec_l1New.mono
 have m1_ := @spec_l6Any.mono
 exact zR
set_option maxHeartbeats 8000000 in
set_option maxRecDepth 100000 in
theorem spec_DrawPutFrame.calls (k : Nat) (A0 : Option Addr) (c0 : Nat) (l0 : List Int) (r1 : Int) (r2 : Int) (r3 : Int) (r4 : List Int) (w : World) (hr0 : Kd.C (Kd.int .u8) w A0 l0.length l0) (hc0 : l0.length ≤ c0) (h : spec_DrawPutFrame.f k l0 = some (r1, r2, r3, r4)) :
  Calls Try.prog 74 #[.slice A0 l0.length c0] w fun e w' => ∃ v3_ : Value, e = .returned (.agg #[.int .i64 r1, .int .i64 r2, .int .i64 r3, v3_]) ∧ Kd.R (Kd.int .u8) 5 w' w.heap.size (fun _ => True) v3_ r4 ∧ Below w.heap.size w w' := by
 have hu54 := Try.underlying54
 have HR0 := zA hr0
 have HC0 := zA hc0
 clear hr0 hc0
 have HB := zA (Below.refl w.heap.size w)
 unfold spec_DrawPutFrame.f at h
 have H := h
 clear h
 have HC2 := zA H
 clear H
 go_enter Try.func74, Try.ntmps74
 go_upto_region 0 with (fail)
 have H := HC2.out
 clear HC2
 have HC3 := zA H
 clear H
 go_upto_region 1 with (first | ((with_reducible refine gate_dst (N := 2) rfl ?_); refine box_event ?hg (N := 2) ?hd (cs := #[.int .i64 0, .int .i64 0, .int .i64 0, .slice none 0 0]) (t := 54) ?hr ?_; (case hd => rfl); (case hg => rfl); (case hr => first | (go_simp; done) | (go_simp; rfl)); intro gb448 hg w4 hbox hb; have BK448 := zA (hbox); have GW448 := zA ((zq18 : w.heap.size ≤ gb448)); have GE448 := zA ((zq18 : w.heap.size ≤ gb448)); replace HB := zA (below_step zq0 hb); clear hb hbox hg))
 (try simp only [Act.put, List.setIfInBounds_toArray, List.set_cons_zero, List.set_cons_succ])
 have H := HC3.out
 clear HC3
 obtain ⟨⟨t449, t450, t451⟩, A5, H⟩ := zB H
 try dsimp only at H
 have HC6 := zA H
 clear H
 go_upto_region 2 with (first | ((with_reducible refine gate_callee (f := 104) rfl ?_); refine goesL_ (some 5) rfl rfl Try.func104 (by kernel_rfl) rfl #[.slice A0 l0.length c0] rfl zq1 ?_; (with_reducible refine (spec_l1New.calls k _ _ l0 t449 t450 t451 w _ ?side1 ?side2 ?side3 A5.out).mono ?_); (case side1 => repeat (first | (with_reducible first | exact HB.out | apply below_alloc | apply pw_below_drewN | apply below_drew1 | refine below_set ?_ GE448.out) | exact HB.out)); (case side2 => exact HR0.out); (case side3 => exact HC0.out); rintro e w7 ⟨g452, rfl, hi, hb, hb2⟩; refine ⟨_, rfl, ?_⟩; replace HB := zA (hb); have HI452 := zA (hi); have NB452_448 := zA (IsS170.ne_blk hi (blk_below (g := gb448) (o := .cells #[.int .i64 0, .int .i64 0, .int .i64 0, .slice none 0 0] 54 (0, 0)) zq156 hb2) zq40); have NB448_452 := zA (Ne.symm (IsS170.ne_blk hi (blk_below (g := gb448) (o := .cells #[.int .i64 0, .int .i64 0, .int .i64 0, .slice none 0 0] 54 (0, 0)) zq156 hb2) zq40)); replace BK448 := zA (blk_below (g := gb448) (o := .cells #[.int .i64 0, .int .i64 0, .int .i64 0, .slice none 0 0] 54 (0, 0)) zq156 hb2); clear hb hb2 hi))
 (try simp only [Act.put, List.setIfInBounds_toArray, List.set_cons_zero, List.set_cons_succ])
 have H := HC6.out
 clear HC6
 obtain ⟨⟨t453, t454, t455, t456, t459, t460⟩, A8, H⟩ := zB H
 try dsimp only at H
 simp only [Option.some.injEq, Prod.mk.injEq] at H
 obtain ⟨rfl, rfl, rfl, rfl⟩ := H
 go_wp2_with (first | ((with_reducible refine gate_callee (f := 159) rfl ?_); refine goesL_ (some 7) rfl rfl Try.func159 (by kernel_rfl) rfl #[.pointer (some ⟨g452, 0, none⟩)] rfl zq1 ?_; (with_reducible refine (spec_l6Any.calls k g452 t449 t450 t451 t453 t454 t455 t456 t459 t460 w _ ?side1 ?side2 A8.out).mono ?_); (case side1 => repeat (first | (with_reducible first | exact HI452.out | apply IsS170.alloc | apply IsS170.drewN | apply IsS170.drew | apply IsS170.set_1 | apply IsS170.set_2 | refine IsS170.far ?_ NB452_448.out _) | exact HI452.out)); (case side2 => repeat (first | (with_reducible first | exact HB.out | apply below_alloc | apply pw_below_drewN | apply below_drew1 | refine below_set ?_ (IsS170.ge HI452.out) | refine below_set ?_ GE448.out) | exact HB.out)); rintro e w9 ⟨v457, rfl, ho0, hi, hb, hk⟩; refine ⟨_, rfl, ?_⟩; replace BK448 := zA (KeepBut.blk hk (g' := gb448) (o := .cells #[.int .i64 0, .int .i64 0, .int .i64 0, .slice none 0 0] 54 (0, 0)) zq156 NB448_452.out zq125); have HO458 := zA (Kd.R_lower ho0 (below_size zq181)); replace HB := zA (hb); replace HI452 := zA (hi); clear hb hk hi ho0; have hnb10 := NB448_452.out; have hnc10 := NB452_448.out; have hcz11_0 : w9.cell? ⟨gb448, 0, none⟩ = some (.int .i64 0) := (blk_cell BK448.out 0).trans rfl; have hcz11_1 : w9.cell? ⟨gb448, 1, none⟩ = some (.int .i64 0) := (blk_cell BK448.out 1).trans rfl; have hcz11_2 : w9.cell? ⟨gb448, 2, none⟩ = some (.int .i64 0) := (blk_cell BK448.out 2).trans rfl; have hcz11_3 : w9.cell? ⟨gb448, 3, none⟩ = some (.slice none 0 0) := (blk_cell BK448.out 3).trans rfl; have hfz11_0 := blk_frozen BK448.out 0; have hfz11_1 := blk_frozen BK448.out 1; have hfz11_2 := blk_frozen BK448.out 2; have hfz11_3 := blk_frozen BK448.out 3; obtain ⟨Ao12, co12, eo12⟩ := Kd.R_slice HO458.out; subst eo12))
 refine bodyPost_ret (results_cell_row rfl _ _ gb448 54 #[.int .i64 t453, .int .i64 t454, .int .i64 t455, .slice Ao12 t456.length co12] (0, 0) _ rfl (by (with_reducible repeat (first | refine blk_drewN ?_ _ | refine blk_drew ?_ | refine blk_alloc ?_ _)); refine blk_put (cs := #[.int .i64 t453, .int .i64 t454, .int .i64 t455, .slice none 0 0]) ?_ 3 _ rfl; (with_reducible repeat (first | refine blk_drewN ?_ _ | refine blk_drew ?_ | refine blk_alloc ?_ _)); refine blk_put (cs := #[.int .i64 t453, .int .i64 t454, .int .i64 0, .slice none 0 0]) ?_ 2 _ rfl; (with_reducible repeat (first | refine blk_drewN ?_ _ | refine blk_drew ?_ | refine blk_alloc ?_ _)); refine blk_put (cs := #[.int .i64 t453, .int .i64 0, .int .i64 0, .slice none 0 0]) ?_ 1 _ rfl; (with_reducible repeat (first | refine blk_drewN ?_ _ | refine blk_drew ?_ | refine blk_alloc ?_ _)); refine blk_put (cs := #[.int .i64 0, .int .i64 0, .int .i64 0, .slice none 0 0]) ?_ 0 _ rfl; (with_reducible repeat (first | refine blk_drewN ?_ _ | refine blk_drew ?_ | refine blk_alloc ?_ _)); exact BK448.out) Try.underlying54 rfl (by kernel_rfl)) rfl ?_
 exact ⟨_, zq5, (by (with_reducible repeat (first | apply Kd.R_alloc | apply Kd.R_drewN | apply Kd.R_drew)); exact Kd.R_mono (Kd.R_far (p := ⟨gb448, 3, none⟩) (Kd.R_far (p := ⟨gb448, 2, none⟩) (Kd.R_far (p := ⟨gb448, 1, none⟩) (Kd.R_far (p := ⟨gb448, 0, none⟩) (Kd.R_types HO458.out BK448.out zq40) (fun _ hk => hk.2) (.int .i64 t453)) (fun _ hk => hk.2) (.int .i64 t454)) (fun _ hk => hk.2) (.int .i64 t455)) (fun _ hk => hk.2) (.slice Ao12 t456.length co12)) (fun _ hk => trivial)), zq181⟩

end Go.Proofs.Ytkcgghgkmgbphaa.PFnFrames
