-- WRITTEN BY a turned copy of the kit's printer (wip/patch_print.py), for this claim
import Derived.Test.YtkcgghgkmgbphaaPFnFramesx0
namespace Go.Proofs.Ytkcgghgkmgbphaa.PFnFrames
open Go.RowKit Go.Proofs.YtkcgghgkmgbphaaW.PrintWords Go.Proofs.YtkcgghgkmgbphaaW.PrintLast Go.Proofs.YtkcgghgkmgbphaaW.PrintMore
attribute [local go_sem] max2_int min2_int max_two min_two max_three min_three max_four min_four   -- for this text's walks alone
set_option linter.unusedVariables false
set_option linter.unusedSimpArgs false

attribute [local go_sem] cell_setCell_m
/-! ### laws_big: function 18 -/
def laws_big.f (l0 : List Int) : Option (Bool) := some (decide ((l0.length : Int) > 1048576))
set_option maxHeartbeats 8000000 in
set_option maxRecDepth 100000 in
theorem laws_big.calls (A0 : Option Addr) (c0 : Nat) (l0 : List Int) (r : Bool) (w : World) (hr0 : Kd.C (Kd.int .u8) w A0 l0.length l0) (hc0 : l0.length ≤ c0) (h : laws_big.f l0 = some r) :
  Calls Try.prog 18 #[.slice A0 l0.length c0] w fun e w' => e = .returned (.bool r) ∧ Drawn0 w w' := by
 have HR0 := zA hr0
 have HC0 := zA hc0
 clear hr0 hc0
 unfold laws_big.f at h
 have H := h
 clear h
 have HC2 := zA H
 clear H
 go_enter Try.func18, Try.ntmps18
 go_upto_region 0 with (fail)
 have H := HC2.out
 clear HC2
 have HC3 := zA H
 clear H
 go_upto_region 1 with (fail)
 have H := HC3.out
 clear HC3
 obtain rfl := Option.some.inj H
 go_wp2
 go_ret
 exact ⟨zq25, zq102⟩

/-! ### laws_sameBytes: function 25 -/
def laws_sameBytes.l0 : Nat → List Int → List Int → Int → Option (Bool)
 | 0, _, _, _ => none
 | k + 1, x0, x1, x5 => if x5 < (x0.length : Int) then (if 0 ≤ x5 then (if x5 < (x1.length : Int) then (if (rd x0 x5) = (rd x1 x5) then (laws_sameBytes.l0 k x0 x1 (wrap64 (x5 + 1))) else (some false)) else (none)) else (none)) else (some true)
def laws_sameBytes.f (k : Nat) (l0 : List Int) (l1 : List Int) : Option (Bool) := if (l0.length : Int) = (l1.length : Int) then (laws_sameBytes.l0 k l0 l1 0) else (some false)
theorem laws_sameBytes.mono_l : ∀ k, (∀ y0 y1 y2, LeO (laws_sameBytes.l0 k y0 y1 y2) (laws_sameBytes.l0 (k + 1) y0 y1 y2))
 | 0 => fun _ _ _ r h => by simp [laws_sameBytes.l0] at h
 | k + 1 => by
  have ih0 := laws_sameBytes.mono_l k
  ·intro y0 y1 y2
   unfold laws_sameBytes.l0
   exact zR
theorem laws_sameBytes.mono : ∀ a0 a1 k, LeO (laws_sameBytes.f k a0 a1) (laws_sameBytes.f (k + 1) a0 a1) := by
 intro a0 a1 k
 have ih0 := laws_sameBytes.mono_l k
 unfold laws_sameBytes.f
 exact zR
set_option maxHeartbeats 8000000 in
set_option maxRecDepth 100000 in
theorem laws_sameBytes.calls (k : Nat) (A0 : Option Addr) (c0 : Nat) (l0 : List Int) (A1 : Option Addr) (c1 : Nat) (l1 : List Int) (r : Bool) (w : World) (hr0 : Kd.C (Kd.int .u8) w A0 l0.length l0) (hc0 : l0.length ≤ c0) (hr1 : Kd.C (Kd.int .u8) w A1 l1.length l1) (hc1 : l1.length ≤ c1) (h : laws_sameBytes.f k l0 l1 = some r) :
  Calls Try.prog 25 #[.slice A0 l0.length c0, .slice A1 l1.length c1] w fun e w' => e = .returned (.bool r) ∧ Drawn0 w w' := by
 have HR0 := zA hr0
 have HC0 := zA hc0
 clear hr0 hc0
 have HR1 := zA hr1
 have HC1 := zA hc1
 clear hr1 hc1
 unfold laws_sameBytes.f at h
 have H := h
 clear h
 have HC3 := zA H
 clear H
 go_enter Try.func25, Try.ntmps25
 go_upto_region 0 with (fail)
 repeat (go_quiet (fail); go_upto_region 0 with (fail))
 have H := HC3.out
 clear HC3
 have HC4 := zA H
 clear H
 go_upto_region 1 with (fail)
 repeat (go_quiet (fail); go_upto_region 1 with (fail))
 have H := HC4.out
 clear HC4
 by_cases c5 : (l0.length : Int) = (l1.length : Int)
 ·rw [if_pos c5] at H
  have c5b0 : ((l0.length : Int) == (l1.length : Int)) = true := beq_iff_eq.mpr c5
  have c5b1 : ((l0.length : Int) != (l1.length : Int)) = false := bne_eq_false_iff_eq.mpr c5
  have c5b2 : (l0.length == l1.length) = true := by first | simpa using c5 | (simp at c5 ⊢; omega)
  clear c5
  have HC6 := zA H
  clear H
  go_upto_region 3 with (fail)
  repeat (go_quiet (fail); go_upto_region 3 with (fail))
  have H := HC6.out
  clear HC6
  have H' := zA H
  clear H
  go_wp2
  repeat (go_quiet (fail); try go_wp2)
  go_loopg [5] k (fun kq v5 w' => ∃ (x5_1 : Int), v5 = .int .i64 x5_1 ∧ Aside0 (laws_sameBytes.l0 kq l0 l1 x5_1 = some r) ∧ Aside0 (kq ≤ k) ∧ Drawn0 w w')
  case atStart => exact ⟨(0), zq25, H', ⟨Nat.le_refl _⟩, zq102⟩
  case round =>
   clear H'
   try clear c1
   try clear c2
   try clear p2
   try clear c5
   try clear c5b0
   try clear c5b1
   try clear c5b2
   obtain ⟨x5_1, rfl, HA, HK1, ⟨m1, rfl⟩⟩ := hrel
   cases gk with
   | zero => exact absurd HA.out (by simp [laws_sameBytes.l0])
   | succ k1 =>
    have H := HA.out
    clear HA
    simp only [laws_sameBytes.l0] at H
    have HC7 := zA H
    clear H
    go_upto_region 4 with (fail)
    repeat (go_quiet (fail); go_upto_region 4 with (fail))
    have H := HC7.out
    clear HC7
    by_cases c8 : x5_1 < (l0.length : Int)
    ·rw [if_pos c8] at H
     have c8b0 : decide (x5_1 < (l0.length : Int)) = true := decide_eq_true c8
     clear c8
     have HC9 := zA H
     clear H
     go_upto_region 6 with (fail)
     repeat (go_quiet (fail); go_upto_region 6 with (fail))
     have H := HC9.out
     clear HC9
     obtain ⟨c10, H⟩ := zN H
     have c10b0 : decide (0 ≤ x5_1) = true := decide_eq_true c10
     clear c10
     obtain ⟨c11, H⟩ := zN H
     have c11b0 : decide (x5_1 < (l1.length : Int)) = true := decide_eq_true c11
     clear c11
     by_cases c12 : (rd l0 x5_1) = (rd l1 x5_1)
     ·rw [if_pos c12] at H
      have c12b0 : ((rd l0 x5_1) == (rd l1 x5_1)) = true := beq_iff_eq.mpr c12
      have c12b1 : ((rd l0 x5_1) != (rd l1 x5_1)) = false := bne_eq_false_iff_eq.mpr c12
      clear c12
      have HC13 := zA H
      clear H
      have p101 : 0 ≤ (x5_1 : Int) := of_decide_eq_true zq17
      have q101 : x5_1 < (l0.length : Int) := of_decide_eq_true zq17
      obtain ⟨ad101, e101, hx101_0⟩ := Kd.at_int HR0.out x5_1 p101 q101
      cases e101
      replace p101 := eq_true p101
      replace q101 := eq_true q101
      have p102 : 0 ≤ (x5_1 : Int) := of_decide_eq_true zq17
      have q102 : x5_1 < (l1.length : Int) := of_decide_eq_true zq17
      obtain ⟨ad102, e102, hx102_0⟩ := Kd.at_int HR1.out x5_1 p102 q102
      cases e102
      replace p102 := eq_true p102
      replace q102 := eq_true q102
      go_upto_region 5 with (fail)
      repeat (go_quiet (fail); go_upto_region 5 with (fail))
      have H := HC13.out
      clear HC13
      have H' := zA H
      clear H
      go_wp2
      repeat (go_quiet (fail); try go_wp2)
      go_roundg k1
      case measure => have := HK1.out; omega
      case rel => exact ⟨(wrap64 (x5_1 + 1)), zq25, H', ⟨zq190⟩, zq102⟩
     ·rw [if_neg c12] at H
      have c12b0 : ((rd l0 x5_1) == (rd l1 x5_1)) = false := beq_eq_false_iff_ne.mpr c12
      have c12b1 : ((rd l0 x5_1) != (rd l1 x5_1)) = true := bne_iff_ne.mpr c12
      have HC14 := zA H
      clear H
      have p101 : 0 ≤ (x5_1 : Int) := of_decide_eq_true zq17
      have q101 : x5_1 < (l0.length : Int) := of_decide_eq_true zq17
      obtain ⟨ad101, e101, hx101_0⟩ := Kd.at_int HR0.out x5_1 p101 q101
      cases e101
      replace p101 := eq_true p101
      replace q101 := eq_true q101
      have p102 : 0 ≤ (x5_1 : Int) := of_decide_eq_true zq17
      have q102 : x5_1 < (l1.length : Int) := of_decide_eq_true zq17
      obtain ⟨ad102, e102, hx102_0⟩ := Kd.at_int HR1.out x5_1 p102 q102
      cases e102
      replace p102 := eq_true p102
      replace q102 := eq_true q102
      go_upto_region 7 with (fail)
      repeat (go_quiet (fail); go_upto_region 7 with (fail))
      have H := HC14.out
      clear HC14
      obtain rfl := Option.some.inj H
      go_wp2
      repeat (go_quiet (fail); try go_wp2)
      go_ret
      exact ⟨zq25, zq102⟩
    ·rw [if_neg c8] at H
     have c8b0 : decide (x5_1 < (l0.length : Int)) = false := decide_eq_false c8
     clear c8
     have HC15 := zA H
     clear H
     go_upto_region 8 with (fail)
     repeat (go_quiet (fail); go_upto_region 8 with (fail))
     have H := HC15.out
     clear HC15
     obtain rfl := Option.some.inj H
     go_wp2
     repeat (go_quiet (fail); try go_wp2)
     go_ret
     exact ⟨zq25, zq102⟩
 ·rw [if_neg c5] at H
  have c5b0 : ((l0.length : Int) == (l1.length : Int)) = false := beq_eq_false_iff_ne.mpr c5
  have c5b1 : ((l0.length : Int) != (l1.length : Int)) = true := bne_iff_ne.mpr c5
  have c5b2 : (l0.length == l1.length) = false := by first | simpa using c5 | (simp at c5 ⊢; omega)
  have HC16 := zA H
  clear H
  go_upto_region 2 with (fail)
  repeat (go_quiet (fail); go_upto_region 2 with (fail))
  have H := HC16.out
  clear HC16
  obtain rfl := Option.some.inj H
  go_wp2
  repeat (go_quiet (fail); try go_wp2)
  go_ret
  exact ⟨zq25, zq102⟩

/-! ### spec_l1In: function 150 -/
def spec_l1In.f (a0 : Int) (a1 : Int) (a2 : Int) : Option (Bool) := if a0 ≥ a1 then (some (decide (a0 ≤ a2))) else (some false)
set_option maxHeartbeats 8000000 in
set_option maxRecDepth 100000 in
theorem spec_l1In.calls (a0 : Int) (a1 : Int) (a2 : Int) (r : Bool) (w : World) (h : spec_l1In.f a0 a1 a2 = some r) :
  Calls Try.prog 150 #[.int .i64 a0, .int .i64 a1, .int .i64 a2] w fun e w' => e = .returned (.bool r) ∧ Drawn0 w w' := by
 unfold spec_l1In.f at h
 have H := h
 clear h
 have HC4 := zA H
 clear H
 go_enter Try.func150, Try.ntmps150
 go_upto_region 0 with (fail)
 have H := HC4.out
 clear HC4
 have HC5 := zA H
 clear H
 go_upto_region 1 with (fail)
 have H := HC5.out
 clear HC5
 by_cases c6 : a0 ≥ a1
 ·rw [if_pos c6] at H
  have c6b0 : decide (a1 ≤ a0) = true := decide_eq_true c6
  clear c6
  obtain rfl := Option.some.inj H
  go_wp2
  go_ret
  exact ⟨zq25, zq102⟩
 ·rw [if_neg c6] at H
  have c6b0 : decide (a1 ≤ a0) = false := decide_eq_false c6
  clear c6
  obtain rfl := Option.some.inj H
  go_wp2
  go_ret
  exact ⟨zq25, zq102⟩

/-! ### spec_FrameOk: function 80 -/
def spec_FrameOk.f (a0_0 : Int) (a0_1 : Int) (a0_2 : Int) (l0_3 : List Int) : Option (Bool) := (spec_l1In.f a0_0 0 9999).bind fun t104 => (if t104 = true then ((spec_l1In.f a0_1 1 9999).bind fun t105 => (if t105 = true then ((spec_l1In.f a0_2 0 99).bind fun t106 => (if t106 = true then (some (decide ((l0_3.length : Int) ≤ 20))) else (some false))) else (some false))) else (some false))
set_option maxHeartbeats 8000000 in
set_option maxRecDepth 100000 in
theorem spec_FrameOk.calls (a0_0 : Int) (a0_1 : Int) (a0_2 : Int) (A0_3 : Option Addr) (c0_3 : Nat) (l0_3 : List Int) (r : Bool) (w : World) (hr0_3 : Kd.C (Kd.int .u8) w A0_3 l0_3.length l0_3) (hc0_3 : l0_3.length ≤ c0_3) (h : spec_FrameOk.f a0_0 a0_1 a0_2 l0_3 = some r) :
  Calls Try.prog 80 #[.agg #[.int .i64 a0_0, .int .i64 a0_1, .int .i64 a0_2, .slice A0_3 l0_3.length c0_3]] w fun e w' => e = .returned (.bool r) ∧ Below w.heap.size w w' := by
 have hu54 := Try.underlying54
 have HR0_3 := zA hr0_3
 have HC0_3 := zA hc0_3
 clear hr0_3 hc0_3
 have HB := zA (Below.refl w.heap.size w)
 unfold spec_FrameOk.f at h
 have H := h
 clear h
 have HC2 := zA H
 clear H
 go_enter Try.func80, Try.ntmps80
 go_upto_region 0 with (fail)
 have H := HC2.out
 clear HC2
 have HC3 := zA H
 clear H
 go_upto_region 1 with (first | ((with_reducible refine gate_dst (N := 1) rfl ?_); (try (refine gate_guard zq110 ?_; dsimp only)); refine box_event ?hg (N := 1) ?hd (cs := #[.int .i64 a0_0, .int .i64 a0_1, .int .i64 a0_2, .slice A0_3 l0_3.length c0_3]) (t := 54) ?hr ?_; (case hd => rfl); (case hg => rfl); (case hr => first | (go_simp; done) | (go_simp; rfl)); intro gb103 hg w4 hbox hb; have BK103 := zA (hbox); have GW103 := zA ((zq18 : w.heap.size ≤ gb103)); have GE103 := zA ((zq18 : w.heap.size ≤ gb103)); replace HB := zA (below_step zq0 hb); clear hb hbox hg))
 (try simp only [Act.put, List.setIfInBounds_toArray, List.set_cons_zero, List.set_cons_succ])
 have H := HC3.out
 clear HC3
 obtain ⟨t104, A5, H⟩ := zB H
 try dsimp only at H
 by_cases c6 : t104 = true
 ·subst c6
  rw [if_pos rfl] at H
  obtain ⟨t105, A7, H⟩ := zB H
  try dsimp only at H
  by_cases c8 : t105 = true
  ·subst c8
   rw [if_pos rfl] at H
   obtain ⟨t106, A9, H⟩ := zB H
   try dsimp only at H
   by_cases c10 : t106 = true
   ·subst c10
    rw [if_pos rfl] at H
    obtain rfl := Option.some.inj H
    have hcz11_0 : w4.cell? ⟨gb103, 0, none⟩ = some (.int .i64 a0_0) := (blk_cell BK103.out 0).trans rfl
    have hcz11_1 : w4.cell? ⟨gb103, 1, none⟩ = some (.int .i64 a0_1) := (blk_cell BK103.out 1).trans rfl
    have hcz11_2 : w4.cell? ⟨gb103, 2, none⟩ = some (.int .i64 a0_2) := (blk_cell BK103.out 2).trans rfl
    have hcz11_3 : w4.cell? ⟨gb103, 3, none⟩ = some (.slice A0_3 l0_3.length c0_3) := (blk_cell BK103.out 3).trans rfl
    have hfz11_0 := blk_frozen BK103.out 0
    have hfz11_1 := blk_frozen BK103.out 1
    have hfz11_2 := blk_frozen BK103.out 2
    have hfz11_3 := blk_frozen BK103.out 3
    go_wp2_with (first | ((with_reducible refine gate_callee (f := 150) rfl ?_); refine goesL_ (some 5) rfl rfl Try.func150 (by kernel_rfl) rfl #[.int .i64 a0_0, .int .i64 0, .int .i64 9999] rfl zq1 ?_; (with_reducible refine (spec_l1In.calls a0_0 0 9999 true _ A5.out).mono ?_); rintro e w' ⟨rfl, ⟨nd, rfl⟩⟩; refine ⟨_, rfl, ?_⟩) | (go_at_call 150; (with_reducible refine (spec_l1In.calls a0_1 1 9999 true _ A7.out).mono ?_); rintro e w' ⟨rfl, ⟨nd, rfl⟩⟩) | (go_at_call 150; (with_reducible refine (spec_l1In.calls a0_2 0 99 true _ A9.out).mono ?_); rintro e w' ⟨rfl, ⟨nd, rfl⟩⟩))
    go_ret
    exact ⟨zq5, zq127⟩
   ·replace c10 := Bool.eq_false_iff.mpr c10
    subst c10
    rw [if_neg zF] at H
    obtain rfl := Option.some.inj H
    have hcz12_0 : w4.cell? ⟨gb103, 0, none⟩ = some (.int .i64 a0_0) := (blk_cell BK103.out 0).trans rfl
    have hcz12_1 : w4.cell? ⟨gb103, 1, none⟩ = some (.int .i64 a0_1) := (blk_cell BK103.out 1).trans rfl
    have hcz12_2 : w4.cell? ⟨gb103, 2, none⟩ = some (.int .i64 a0_2) := (blk_cell BK103.out 2).trans rfl
    have hcz12_3 : w4.cell? ⟨gb103, 3, none⟩ = some (.slice A0_3 l0_3.length c0_3) := (blk_cell BK103.out 3).trans rfl
    have hfz12_0 := blk_frozen BK103.out 0
    have hfz12_1 := blk_frozen BK103.out 1
    have hfz12_2 := blk_frozen BK103.out 2
    have hfz12_3 := blk_frozen BK103.out 3
    go_wp2_with (first | ((with_reducible refine gate_callee (f := 150) rfl ?_); refine goesL_ (some 5) rfl rfl Try.func150 (by kernel_rfl) rfl #[.int .i64 a0_0, .int .i64 0, .int .i64 9999] rfl zq1 ?_; (with_reducible refine (spec_l1In.calls a0_0 0 9999 true _ A5.out).mono ?_); rintro e w' ⟨rfl, ⟨nd, rfl⟩⟩; refine ⟨_, rfl, ?_⟩) | (go_at_call 150; (with_reducible refine (spec_l1In.calls a0_1 1 9999 true _ A7.out).mono ?_); rintro e w' ⟨rfl, ⟨nd, rfl⟩⟩) | (go_at_call 150; (with_reducible refine (spec_l1In.calls a0_2 0 99 false _ A9.out).mono ?_); rintro e w' ⟨rfl, ⟨nd, rfl⟩⟩))
    go_ret
    exact ⟨zq5, zq127⟩
  ·replace c8 := Bool.eq_false_iff.mpr c8
   subst c8
   rw [if_neg zF] at H
   obtain rfl := Option.some.inj H
   have hcz13_0 : w4.cell? ⟨gb103, 0, none⟩ = some (.int .i64 a0_0) := (blk_cell BK103.out 0).trans rfl
   have hcz13_1 : w4.cell? ⟨gb103, 1, none⟩ = some (.int .i64 a0_1) := (blk_cell BK103.out 1).trans rfl
   have hcz13_2 : w4.cell? ⟨gb103, 2, none⟩ = some (.int .i64 a0_2) := (blk_cell BK103.out 2).trans rfl
   have hcz13_3 : w4.cell? ⟨gb103, 3, none⟩ = some (.slice A0_3 l0_3.length c0_3) := (blk_cell BK103.out 3).trans rfl
   have hfz13_0 := blk_frozen BK103.out 0
   have hfz13_1 := blk_frozen BK103.out 1
   have hfz13_2 := blk_frozen BK103.out 2
   have hfz13_3 := blk_frozen BK103.out 3
   go_wp2_with (first | ((with_reducible refine gate_callee (f := 150) rfl ?_); refine goesL_ (some 5) rfl rfl Try.func150 (by kernel_rfl) rfl #[.int .i64 a0_0, .int .i64 0, .int .i64 9999] rfl zq1 ?_; (with_reducible refine (spec_l1In.calls a0_0 0 9999 true _ A5.out).mono ?_); rintro e w' ⟨rfl, ⟨nd, rfl⟩⟩; refine ⟨_, rfl, ?_⟩) | (go_at_call 150; (with_reducible refine (spec_l1In.calls a0_1 1 9999 false _ A7.out).mono ?_); rintro e w' ⟨rfl, ⟨nd, rfl⟩⟩))
   go_ret
   exact ⟨zq5, zq127⟩
 ·replace c6 := Bool.eq_false_iff.mpr c6
  subst c6
  rw [if_neg zF] at H
  obtain rfl := Option.some.inj H
  have hcz14_0 : w4.cell? ⟨gb103, 0, none⟩ = some (.int .i64 a0_0) := (blk_cell BK103.out 0).trans rfl
  have hcz14_1 : w4.cell? ⟨gb103, 1, none⟩ = some (.int .i64 a0_1) := (blk_cell BK103.out 1).trans rfl
  have hcz14_2 : w4.cell? ⟨gb103, 2, none⟩ = some (.int .i64 a0_2) := (blk_cell BK103.out 2).trans rfl
  have hcz14_3 : w4.cell? ⟨gb103, 3, none⟩ = some (.slice A0_3 l0_3.length c0_3) := (blk_cell BK103.out 3).trans rfl
  have hfz14_0 := blk_frozen BK103.out 0
  have hfz14_1 := blk_frozen BK103.out 1
  have hfz14_2 := blk_frozen BK103.out 2
  have hfz14_3 := blk_frozen BK103.out 3
  go_wp2_with (first | ((with_reducible refine gate_callee (f := 150) rfl ?_); refine goesL_ (some 5) rfl rfl Try.func150 (by kernel_rfl) rfl #[.int .i64 a0_0, .int .i64 0, .int .i64 9999] rfl zq1 ?_; (with_reducible refine (spec_l1In.calls a0_0 0 9999 false _ A5.out).mono ?_); rintro e w' ⟨rfl, ⟨nd, rfl⟩⟩; refine ⟨_, rfl, ?_⟩))
  go_ret
  exact ⟨zq5, zq127⟩

end Go.Proofs.Ytkcgghgkmgbphaa.PFnFrames
