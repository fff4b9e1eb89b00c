-- WRITTEN BY a turned copy of the kit's printer (wip/patch_print.py), for this claim
import Derived.Test.YtkcgghgkmgbphaaPFnExactPutValx0
import Derived.Test.YtkcgghgkmgbphaaPFnExactPutValx1
namespace Go.Proofs.Ytkcgghgkmgbphaa.PFnExactPutVal
open Go.RowKit Go.Proofs.YtkcgghgkmgbphaaW.PrintWords Go.Proofs.YtkcgghgkmgbphaaW.PrintLast Go.Proofs.YtkcgghgkmgbphaaW.PrintMore
attribute [local go_sem] max2_int min2_int max_two min_two max_three min_three max_four min_four   -- for this text's walks alone
set_option linter.unusedVariables false
set_option linter.unusedSimpArgs false

attribute [local go_sem] cell_setCell_m
/-! ### spec_OidOk: function 175 -/
def spec_OidOk.l0 : Nat → List Int → Int → Option (Bool)
 | 0, _, _ => none
 | k + 1, x0, x3 => if x3 < (x0.length : Int) then (if 0 ≤ x3 then ((spec_l1In.f (rd x0 x3) 0 100000).bind fun t112 => (if t112 = true then (spec_OidOk.l0 k x0 (wrap64 (x3 + 1))) else (some false))) else (none)) else ((spec_l1In.f (x0.length : Int) 1 10).bind fun t113 => (some t113))
def spec_OidOk.f (k : Nat) (l0 : List Int) : Option (Bool) := spec_OidOk.l0 k l0 0
theorem spec_OidOk.mono_l : ∀ k, (∀ y0 y1, LeO (spec_OidOk.l0 k y0 y1) (spec_OidOk.l0 (k + 1) y0 y1))
 | 0 => fun _ _ r h => by simp [spec_OidOk.l0] at h
 | k + 1 => by
  have ih0 := spec_OidOk.mono_l k
  ·intro y0 y1
   unfold spec_OidOk.l0
   exact zR
theorem spec_OidOk.mono : ∀ a0 k, LeO (spec_OidOk.f k a0) (spec_OidOk.f (k + 1) a0) := by
 intro a0 k
 have ih0 := spec_OidOk.mono_l k
 unfold spec_OidOk.f
 exact zR
set_option maxHeartbeats 8000000 in
set_option maxRecDepth 100000 in
theorem spec_OidOk.calls (k : Nat) (A0 : Option Addr) (c0 : Nat) (l0 : List Int) (r : Bool) (w : World) (hr0 : Kd.C (Kd.int .i64) w A0 l0.length l0) (hc0 : l0.length ≤ c0) (h : spec_OidOk.f k l0 = some r) :
  Calls Try.prog 175 #[.slice A0 l0.length c0] w fun e w' => e = .returned (.bool r) ∧ Drawn0 w w' := by
 have HR0 := zA hr0
 have HC0 := zA hc0
 clear hr0 hc0
 unfold spec_OidOk.f at h
 have H := h
 clear h
 have HC2 := zA H
 clear H
 go_enter Try.func175, Try.ntmps175
 go_upto_region 0 with (fail)
 have H := HC2.out
 clear HC2
 have HC3 := zA H
 clear H
 go_upto_region 1 with (fail)
 have H := HC3.out
 clear HC3
 have H' := zA H
 clear H
 go_wp2
 go_loopg [3] k (fun kq v3 w' => ∃ (x3_1 : Int), v3 = .int .i64 x3_1 ∧ Aside0 (spec_OidOk.l0 kq l0 x3_1 = some r) ∧ Aside0 (kq ≤ k) ∧ Drawn0 w w')
 case atStart => exact ⟨(0), zq8, H', ⟨Nat.le_refl _⟩, zq14⟩
 case round =>
  clear H'
  try clear c1
  try clear p2
  obtain ⟨x3_1, rfl, HA, HK1, ⟨m1, rfl⟩⟩ := hrel
  cases gk with
  | zero => exact absurd HA.out (by simp [spec_OidOk.l0])
  | succ k1 =>
   have H := HA.out
   clear HA
   simp only [spec_OidOk.l0] at H
   have HC4 := zA H
   clear H
   go_upto_region 2 with (fail)
   have H := HC4.out
   clear HC4
   by_cases c5 : x3_1 < (l0.length : Int)
   ·rw [if_pos c5] at H
    have c5b0 : decide (x3_1 < (l0.length : Int)) = true := decide_eq_true c5
    clear c5
    have HC6 := zA H
    clear H
    go_upto_region 4 with (fail)
    have H := HC6.out
    clear HC6
    obtain ⟨c7, H⟩ := zN H
    have c7b0 : decide (0 ≤ x3_1) = true := decide_eq_true c7
    clear c7
    obtain ⟨t112, A8, H⟩ := zB H
    try dsimp only at H
    by_cases c9 : t112 = true
    ·subst c9
     rw [if_pos rfl] at H
     have HC10 := zA H
     clear H
     have p111 : 0 ≤ (x3_1 : Int) := of_decide_eq_true zq9
     have q111 : x3_1 < (l0.length : Int) := of_decide_eq_true zq9
     obtain ⟨ad111, e111, hx111_0⟩ := Kd.at_int HR0.out x3_1 p111 q111
     cases e111
     replace p111 := eq_true p111
     replace q111 := eq_true q111
     go_upto_region 3 with (first | ((with_reducible refine gate_callee (f := 150) rfl ?_); refine goesL_ (some 14) rfl rfl Try.func150 (by kernel_rfl) rfl #[.int .i64 (rd l0 x3_1), .int .i64 0, .int .i64 100000] rfl zq1 ?_; (with_reducible refine (spec_l1In.calls (rd l0 x3_1) 0 100000 true _ A8.out).mono ?_); rintro e w' ⟨rfl, ⟨nd, rfl⟩⟩; refine ⟨_, rfl, ?_⟩))
     (try simp only [Act.put, List.setIfInBounds_toArray, List.set_cons_zero, List.set_cons_succ])
     have H := HC10.out
     clear HC10
     have H' := zA H
     clear H
     go_wp2
     go_roundg k1
     case measure => have := HK1.out; omega
     case rel => exact ⟨(wrap64 (x3_1 + 1)), zq8, H', ⟨zq49⟩, zq14⟩
    ·replace c9 := Bool.eq_false_iff.mpr c9
     subst c9
     rw [if_neg zF] at H
     have HC11 := zA H
     clear H
     have p111 : 0 ≤ (x3_1 : Int) := of_decide_eq_true zq9
     have q111 : x3_1 < (l0.length : Int) := of_decide_eq_true zq9
     obtain ⟨ad111, e111, hx111_0⟩ := Kd.at_int HR0.out x3_1 p111 q111
     cases e111
     replace p111 := eq_true p111
     replace q111 := eq_true q111
     go_upto_region 5 with (first | ((with_reducible refine gate_callee (f := 150) rfl ?_); refine goesL_ (some 14) rfl rfl Try.func150 (by kernel_rfl) rfl #[.int .i64 (rd l0 x3_1), .int .i64 0, .int .i64 100000] rfl zq1 ?_; (with_reducible refine (spec_l1In.calls (rd l0 x3_1) 0 100000 false _ A8.out).mono ?_); rintro e w' ⟨rfl, ⟨nd, rfl⟩⟩; refine ⟨_, rfl, ?_⟩))
     (try simp only [Act.put, List.setIfInBounds_toArray, List.set_cons_zero, List.set_cons_succ])
     have H := HC11.out
     clear HC11
     obtain rfl := Option.some.inj H
     go_wp2
     go_ret
     exact ⟨zq8, zq14⟩
   ·rw [if_neg c5] at H
    have c5b0 : decide (x3_1 < (l0.length : Int)) = false := decide_eq_false c5
    clear c5
    have HC12 := zA H
    clear H
    go_upto_region 6 with (fail)
    have H := HC12.out
    clear HC12
    obtain ⟨t113, A13, H⟩ := zB H
    try dsimp only at H
    obtain rfl := Option.some.inj H
    go_wp2_with (first | ((with_reducible refine gate_callee (f := 150) rfl ?_); refine goesL_ (some 18) rfl rfl Try.func150 (by kernel_rfl) rfl #[.int .i64 (l0.length : Int), .int .i64 1, .int .i64 10] rfl zq1 ?_; (with_reducible refine (spec_l1In.calls (l0.length : Int) 1 10 t113 _ A13.out).mono ?_); rintro e w' ⟨rfl, ⟨nd, rfl⟩⟩; refine ⟨_, rfl, ?_⟩))
    go_ret
    exact ⟨zq8, zq14⟩

/-! ### spec_ValOk: function 91 -/
def spec_ValOk.j0 : Nat → Int → Bool → Int → Int → ByteArray → List Int → Option (Bool)
 | 0, _, _, _, _, _, _ => none
 | k + 1, x4, x5, x115000, x115001, x115002, x115003 => if x5 = true then (if x115001 = 0 then (if x115002.toList = ([] : List UInt8) then (some ((x115003.length : Int) == 0)) else (some false)) else (some false)) else (if x4 = 2 then ((spec_l1Clip.f x115001).bind fun t115 => (if t115 = x115001 then (if x115002.toList = ([] : List UInt8) then (some ((x115003.length : Int) == 0)) else (some false)) else (some false))) else (if x4 = 4 then (if (x115002.size : Int) ≤ 20 then (if x115001 = 0 then (some ((x115003.length : Int) == 0)) else (some false)) else (some false)) else (if x4 = 6 then ((spec_OidOk.f k x115003).bind fun t116 => (if t116 = true then (if x115001 = 0 then (some (x115002.toList == ([] : List UInt8))) else (some false)) else (some false))) else (some false))))
def spec_ValOk.f (k : Nat) (a0_0 : Int) (a0_1 : Int) (a0_2 : ByteArray) (l0_3 : List Int) : Option (Bool) := if a0_0 = 5 then (spec_ValOk.j0 k a0_0 (a0_0 == 5) a0_0 a0_1 a0_2 l0_3) else (if a0_0 = 128 then (spec_ValOk.j0 k a0_0 (a0_0 == 128) a0_0 a0_1 a0_2 l0_3) else (spec_ValOk.j0 k a0_0 (a0_0 == 130) a0_0 a0_1 a0_2 l0_3))
theorem spec_ValOk.mono_l : ∀ k, (∀ y0 y1 y2 y3 y4 y5, LeO (spec_ValOk.j0 k y0 y1 y2 y3 y4 y5) (spec_ValOk.j0 (k + 1) y0 y1 y2 y3 y4 y5))
 | 0 => fun _ _ _ _ _ _ r h => by simp [spec_ValOk.j0] at h
 | k + 1 => by
  have ih0 := spec_ValOk.mono_l k
  ·intro y0 y1 y2 y3 y4 y5
   unfold spec_ValOk.j0
   have m0_ := @spec_OidOk.mono
   exact zR
theorem spec_ValOk.mono : ∀ a0 a1 a2 a3 k, LeO (spec_ValOk.f k a0 a1 a2 a3) (spec_ValOk.f (k + 1) a0 a1 a2 a3) := by
 intro a0 a1 a2 a3 k
 have ih0 := spec_ValOk.mono_l k
 unfold spec_ValOk.f
 have m0_ := @spec_OidOk.mono
 exact zR
set_option maxHeartbeats 8000000 in
set_option maxRecDepth 100000 in
theorem spec_ValOk.calls (k : Nat) (a0_0 : Int) (a0_1 : Int) (a0_2 : ByteArray) (A0_3 : Option Addr) (c0_3 : Nat) (l0_3 : List Int) (r : Bool) (w : World) (hr0_3 : Kd.C (Kd.int .i64) w A0_3 l0_3.length l0_3) (hc0_3 : l0_3.length ≤ c0_3) (h : spec_ValOk.f k a0_0 a0_1 a0_2 l0_3 = some r) :
  Calls Try.prog 91 #[.agg #[.int .i64 a0_0, .int .i64 a0_1, .string a0_2, .slice A0_3 l0_3.length c0_3]] w fun e w' => e = .returned (.bool r) ∧ Below w.heap.size w w' := by
 have hu76 := Try.underlying76
 have HR0_3 := zA hr0_3
 have HC0_3 := zA hc0_3
 clear hr0_3 hc0_3
 have HB := zA (Below.refl w.heap.size w)
 unfold spec_ValOk.f at h
 have H := h
 clear h
 have HC2 := zA H
 clear H
 go_enter Try.func91, Try.ntmps91
 go_upto_region 0 with (fail)
 repeat (go_quiet (fail); go_upto_region 0 with (fail))
 have H := HC2.out
 clear HC2
 have HC3 := zA H
 clear H
 go_upto_region 1 with (first | ((with_reducible refine gate_dst (N := 1) rfl ?_); (try (refine gate_guard zq72 ?_; dsimp only)); refine box_event ?hg (N := 1) ?hd (cs := #[.int .i64 a0_0, .int .i64 a0_1, .string a0_2, .slice A0_3 l0_3.length c0_3]) (t := 76) ?hr ?_; (case hd => rfl); (case hg => rfl); (case hr => first | (go_simp; done) | (go_simp; rfl)); intro gb114 hg w4 hbox hb; have BK114 := zA (hbox); have GW114 := zA ((zq6 : w.heap.size ≤ gb114)); have GE114 := zA ((zq6 : w.heap.size ≤ gb114)); replace HB := zA (below_step zq0 hb); clear hb hbox hg))
 repeat (go_quiet (first | ((with_reducible refine gate_dst (N := 1) rfl ?_); (try (refine gate_guard zq72 ?_; dsimp only)); refine box_event ?hg (N := 1) ?hd (cs := #[.int .i64 a0_0, .int .i64 a0_1, .string a0_2, .slice A0_3 l0_3.length c0_3]) (t := 76) ?hr ?_; (case hd => rfl); (case hg => rfl); (case hr => first | (go_simp; done) | (go_simp; rfl)); intro gb114 hg w4 hbox hb; have BK114 := zA (hbox); have GW114 := zA ((zq6 : w.heap.size ≤ gb114)); have GE114 := zA ((zq6 : w.heap.size ≤ gb114)); replace HB := zA (below_step zq0 hb); clear hb hbox hg)); go_upto_region 1 with (first | ((with_reducible refine gate_dst (N := 1) rfl ?_); (try (refine gate_guard zq72 ?_; dsimp only)); refine box_event ?hg (N := 1) ?hd (cs := #[.int .i64 a0_0, .int .i64 a0_1, .string a0_2, .slice A0_3 l0_3.length c0_3]) (t := 76) ?hr ?_; (case hd => rfl); (case hg => rfl); (case hr => first | (go_simp; done) | (go_simp; rfl)); intro gb114 hg w4 hbox hb; have BK114 := zA (hbox); have GW114 := zA ((zq6 : w.heap.size ≤ gb114)); have GE114 := zA ((zq6 : w.heap.size ≤ gb114)); replace HB := zA (below_step zq0 hb); clear hb hbox hg)))
 (try simp only [Act.put, List.setIfInBounds_toArray, List.set_cons_zero, List.set_cons_succ])
 have H := HC3.out
 clear HC3
 have HC5 := zA H
 clear H
 have hcz6_0 : w4.cell? ⟨gb114, 0, none⟩ = some (.int .i64 a0_0) := (blk_cell BK114.out 0).trans rfl
 have hcz6_1 : w4.cell? ⟨gb114, 1, none⟩ = some (.int .i64 a0_1) := (blk_cell BK114.out 1).trans rfl
 have hcz6_2 : w4.cell? ⟨gb114, 2, none⟩ = some (.string a0_2) := (blk_cell BK114.out 2).trans rfl
 have hcz6_3 : w4.cell? ⟨gb114, 3, none⟩ = some (.slice A0_3 l0_3.length c0_3) := (blk_cell BK114.out 3).trans rfl
 have hfz6_0 := blk_frozen BK114.out 0
 have hfz6_1 := blk_frozen BK114.out 1
 have hfz6_2 := blk_frozen BK114.out 2
 have hfz6_3 := blk_frozen BK114.out 3
 go_upto_region 2 with (fail)
 repeat (go_quiet (fail); go_upto_region 2 with (fail))
 have H := HC5.out
 clear HC5
 have HC7 := zA H
 clear H
 go_upto_if 5 with (fail)
 repeat (go_quiet (fail); go_upto_if 5 with (fail))
 go_cut [5] (fun v5 wc => ∃ (kq : Nat) (x5_6 : Bool), v5 = .bool x5_6 ∧ Aside0 (spec_ValOk.j0 kq a0_0 x5_6 a0_0 a0_1 a0_2 l0_3 = some r) ∧ Aside0 (kq ≤ k) ∧ Aside0 (wc.heap[gb114]? = some (.cells #[.int .i64 a0_0, .int .i64 a0_1, .string a0_2, (.slice A0_3 l0_3.length c0_3)] 76 (0, 0))) ∧ Aside0 (Below w.heap.size w wc))
 case first =>
  have H := HC7.out
  clear HC7
  by_cases c8 : a0_0 = 5
  ·rw [if_pos c8] at H
   have c8b0 : (a0_0 == 5) = true := beq_iff_eq.mpr c8
   have c8b1 : (a0_0 != 5) = false := bne_eq_false_iff_eq.mpr c8
   clear c8
   (first | rw [c8b0] | (simp only [i64_w, i32_w]; rw [c8b0]) | skip)
   have H' := zA H
   clear H
   go_wp2
   repeat (go_quiet (fail); try go_wp2)
   go_meet
   case rel => exact ⟨_, ((a0_0 == 5)), zq8, H', ⟨zq54⟩, ⟨zq58⟩, ⟨zq12⟩⟩
  ·rw [if_neg c8] at H
   have c8b0 : (a0_0 == 5) = false := beq_eq_false_iff_ne.mpr c8
   have c8b1 : (a0_0 != 5) = true := bne_iff_ne.mpr c8
   (first | rw [c8b0] | (simp only [i64_w, i32_w]; rw [c8b0]) | skip)
   have HC9 := zA H
   clear H
   go_upto_region 3 with (fail)
   repeat (go_quiet (fail); go_upto_region 3 with (fail))
   have H := HC9.out
   clear HC9
   by_cases c10 : a0_0 = 128
   ·rw [if_pos c10] at H
    have c10b0 : (a0_0 == 128) = true := beq_iff_eq.mpr c10
    have c10b1 : (a0_0 != 128) = false := bne_eq_false_iff_eq.mpr c10
    clear c10
    have H' := zA H
    clear H
    go_wp2
    repeat (go_quiet (fail); try go_wp2)
    go_meet
    case rel => exact ⟨_, ((a0_0 == 128)), zq8, H', ⟨zq54⟩, ⟨zq58⟩, ⟨zq12⟩⟩
   ·rw [if_neg c10] at H
    have c10b0 : (a0_0 == 128) = false := beq_eq_false_iff_ne.mpr c10
    have c10b1 : (a0_0 != 128) = true := bne_iff_ne.mpr c10
    have HC11 := zA H
    clear H
    go_upto_region 4 with (fail)
    repeat (go_quiet (fail); go_upto_region 4 with (fail))
    have H := HC11.out
    clear HC11
    have H' := zA H
    clear H
    go_wp2
    repeat (go_quiet (fail); try go_wp2)
    go_meet
    case rel => exact ⟨_, ((a0_0 == 130)), zq8, H', ⟨zq54⟩, ⟨zq58⟩, ⟨zq12⟩⟩
 case rest =>
  clear HC7
  try clear c1
  try clear p2
  try clear c8
  try clear c8b0
  try clear c8b1
  try clear c9
  try clear c10
  try clear c10b0
  try clear c10b1
  try clear hcz6_0
  try clear hcz6_1
  try clear hcz6_2
  try clear hcz6_3
  try clear hfz6_0
  try clear hfz6_1
  try clear hfz6_2
  try clear hfz6_3
  obtain ⟨kq, x5_6, rfl, HA, HJ6, BK114, HB⟩ := hcut
  cases kq with
  | zero => exact absurd HA.out (by simp [spec_ValOk.j0])
  | succ kj6 =>
   have H := HA.out
   clear HA
   simp only [spec_ValOk.j0] at H
   by_cases c12 : x5_6 = true
   ·subst c12
    rw [if_pos rfl] at H
    have HC13 := zA H
    clear H
    go_upto_region 5 with (fail)
    repeat (go_quiet (fail); go_upto_region 5 with (fail))
    have H := HC13.out
    clear HC13
    by_cases c14 : a0_1 = 0
    ·rw [if_pos c14] at H
     have c14b0 : (a0_1 == 0) = true := beq_iff_eq.mpr c14
     have c14b1 : (a0_1 != 0) = false := bne_eq_false_iff_eq.mpr c14
     clear c14
     by_cases c15 : a0_2.toList = ([] : List UInt8)
     ·rw [if_pos c15] at H
      have c15b0 : (a0_2.toList == ([] : List UInt8)) = true := beq_iff_eq.mpr c15
      have c15b1 : (a0_2.toList != ([] : List UInt8)) = false := bne_eq_false_iff_eq.mpr c15
      clear c15
      obtain rfl := Option.some.inj H
      have hcz16_0 : wc.cell? ⟨gb114, 0, none⟩ = some (.int .i64 a0_0) := (blk_cell BK114.out 0).trans rfl
      have hcz16_1 : wc.cell? ⟨gb114, 1, none⟩ = some (.int .i64 a0_1) := (blk_cell BK114.out 1).trans rfl
      have hcz16_2 : wc.cell? ⟨gb114, 2, none⟩ = some (.string a0_2) := (blk_cell BK114.out 2).trans rfl
      have hcz16_3 : wc.cell? ⟨gb114, 3, none⟩ = some (.slice A0_3 l0_3.length c0_3) := (blk_cell BK114.out 3).trans rfl
      have hfz16_0 := blk_frozen BK114.out 0
      have hfz16_1 := blk_frozen BK114.out 1
      have hfz16_2 := blk_frozen BK114.out 2
      have hfz16_3 := blk_frozen BK114.out 3
      go_wp2
      repeat (go_quiet (fail); try go_wp2)
      go_ret
      exact ⟨zq2, zq12⟩
     ·rw [if_neg c15] at H
      have c15b0 : (a0_2.toList == ([] : List UInt8)) = false := beq_eq_false_iff_ne.mpr c15
      have c15b1 : (a0_2.toList != ([] : List UInt8)) = true := bne_iff_ne.mpr c15
      obtain rfl := Option.some.inj H
      have hcz17_0 : wc.cell? ⟨gb114, 0, none⟩ = some (.int .i64 a0_0) := (blk_cell BK114.out 0).trans rfl
      have hcz17_1 : wc.cell? ⟨gb114, 1, none⟩ = some (.int .i64 a0_1) := (blk_cell BK114.out 1).trans rfl
      have hcz17_2 : wc.cell? ⟨gb114, 2, none⟩ = some (.string a0_2) := (blk_cell BK114.out 2).trans rfl
      have hcz17_3 : wc.cell? ⟨gb114, 3, none⟩ = some (.slice A0_3 l0_3.length c0_3) := (blk_cell BK114.out 3).trans rfl
      have hfz17_0 := blk_frozen BK114.out 0
      have hfz17_1 := blk_frozen BK114.out 1
      have hfz17_2 := blk_frozen BK114.out 2
      have hfz17_3 := blk_frozen BK114.out 3
      go_wp2
      repeat (go_quiet (fail); try go_wp2)
      go_ret
      exact ⟨zq2, zq12⟩
    ·rw [if_neg c14] at H
     have c14b0 : (a0_1 == 0) = false := beq_eq_false_iff_ne.mpr c14
     have c14b1 : (a0_1 != 0) = true := bne_iff_ne.mpr c14
     obtain rfl := Option.some.inj H
     have hcz18_0 : wc.cell? ⟨gb114, 0, none⟩ = some (.int .i64 a0_0) := (blk_cell BK114.out 0).trans rfl
     have hcz18_1 : wc.cell? ⟨gb114, 1, none⟩ = some (.int .i64 a0_1) := (blk_cell BK114.out 1).trans rfl
     have hcz18_2 : wc.cell? ⟨gb114, 2, none⟩ = some (.string a0_2) := (blk_cell BK114.out 2).trans rfl
     have hcz18_3 : wc.cell? ⟨gb114, 3, none⟩ = some (.slice A0_3 l0_3.length c0_3) := (blk_cell BK114.out 3).trans rfl
     have hfz18_0 := blk_frozen BK114.out 0
     have hfz18_1 := blk_frozen BK114.out 1
     have hfz18_2 := blk_frozen BK114.out 2
     have hfz18_3 := blk_frozen BK114.out 3
     go_wp2
     repeat (go_quiet (fail); try go_wp2)
     go_ret
     exact ⟨zq2, zq12⟩
   ·replace c12 := Bool.eq_false_iff.mpr c12
    subst c12
    rw [if_neg zF] at H
    have HC19 := zA H
    clear H
    go_upto_region 6 with (fail)
    repeat (go_quiet (fail); go_upto_region 6 with (fail))
    have H := HC19.out
    clear HC19
    by_cases c20 : a0_0 = 2
    ·rw [if_pos c20] at H
     have c20b0 : (a0_0 == 2) = true := beq_iff_eq.mpr c20
     have c20b1 : (a0_0 != 2) = false := bne_eq_false_iff_eq.mpr c20
     clear c20
     have HC21 := zA H
     clear H
     go_upto_region 7 with (fail)
     repeat (go_quiet (fail); go_upto_region 7 with (fail))
     have H := HC21.out
     clear HC21
     obtain ⟨t115, A22, H⟩ := zB H
     try dsimp only at H
     by_cases c23 : t115 = a0_1
     ·rw [if_pos c23] at H
      have c23b0 : (t115 == a0_1) = true := beq_iff_eq.mpr c23
      have c23b1 : (t115 != a0_1) = false := bne_eq_false_iff_eq.mpr c23
      clear c23
      by_cases c24 : a0_2.toList = ([] : List UInt8)
      ·rw [if_pos c24] at H
       have c24b0 : (a0_2.toList == ([] : List UInt8)) = true := beq_iff_eq.mpr c24
       have c24b1 : (a0_2.toList != ([] : List UInt8)) = false := bne_eq_false_iff_eq.mpr c24
       clear c24
       obtain rfl := Option.some.inj H
       have hcz25_0 : wc.cell? ⟨gb114, 0, none⟩ = some (.int .i64 a0_0) := (blk_cell BK114.out 0).trans rfl
       have hcz25_1 : wc.cell? ⟨gb114, 1, none⟩ = some (.int .i64 a0_1) := (blk_cell BK114.out 1).trans rfl
       have hcz25_2 : wc.cell? ⟨gb114, 2, none⟩ = some (.string a0_2) := (blk_cell BK114.out 2).trans rfl
       have hcz25_3 : wc.cell? ⟨gb114, 3, none⟩ = some (.slice A0_3 l0_3.length c0_3) := (blk_cell BK114.out 3).trans rfl
       have hfz25_0 := blk_frozen BK114.out 0
       have hfz25_1 := blk_frozen BK114.out 1
       have hfz25_2 := blk_frozen BK114.out 2
       have hfz25_3 := blk_frozen BK114.out 3
       go_wp2_with (first | (go_at_call 174; (with_reducible refine (spec_l1Clip.calls a0_1 t115 _ A22.out).mono ?_); rintro e w' ⟨rfl, ⟨nd, rfl⟩⟩; (try first | exact ⟨rfl, _, World.drewN_drewN _ _ _⟩ | exact ⟨rfl, _, Eq.trans (World.drewN_drewN _ _ _) (congrArg (World.drewN _) (Nat.add_assoc _ _ _))⟩)))
       repeat (go_quiet (first | (go_at_call 174; (with_reducible refine (spec_l1Clip.calls a0_1 t115 _ A22.out).mono ?_); rintro e w' ⟨rfl, ⟨nd, rfl⟩⟩; (try first | exact ⟨rfl, _, World.drewN_drewN _ _ _⟩ | exact ⟨rfl, _, Eq.trans (World.drewN_drewN _ _ _) (congrArg (World.drewN _) (Nat.add_assoc _ _ _))⟩))); try go_wp2_with (first | (go_at_call 174; (with_reducible refine (spec_l1Clip.calls a0_1 t115 _ A22.out).mono ?_); rintro e w' ⟨rfl, ⟨nd, rfl⟩⟩; (try first | exact ⟨rfl, _, World.drewN_drewN _ _ _⟩ | exact ⟨rfl, _, Eq.trans (World.drewN_drewN _ _ _) (congrArg (World.drewN _) (Nat.add_assoc _ _ _))⟩))))
       go_ret
       exact ⟨zq2, zq12⟩
      ·rw [if_neg c24] at H
       have c24b0 : (a0_2.toList == ([] : List UInt8)) = false := beq_eq_false_iff_ne.mpr c24
       have c24b1 : (a0_2.toList != ([] : List UInt8)) = true := bne_iff_ne.mpr c24
       obtain rfl := Option.some.inj H
       have hcz26_0 : wc.cell? ⟨gb114, 0, none⟩ = some (.int .i64 a0_0) := (blk_cell BK114.out 0).trans rfl
       have hcz26_1 : wc.cell? ⟨gb114, 1, none⟩ = some (.int .i64 a0_1) := (blk_cell BK114.out 1).trans rfl
       have hcz26_2 : wc.cell? ⟨gb114, 2, none⟩ = some (.string a0_2) := (blk_cell BK114.out 2).trans rfl
       have hcz26_3 : wc.cell? ⟨gb114, 3, none⟩ = some (.slice A0_3 l0_3.length c0_3) := (blk_cell BK114.out 3).trans rfl
       have hfz26_0 := blk_frozen BK114.out 0
       have hfz26_1 := blk_frozen BK114.out 1
       have hfz26_2 := blk_frozen BK114.out 2
       have hfz26_3 := blk_frozen BK114.out 3
       go_wp2_with (first | (go_at_call 174; (with_reducible refine (spec_l1Clip.calls a0_1 t115 _ A22.out).mono ?_); rintro e w' ⟨rfl, ⟨nd, rfl⟩⟩; (try first | exact ⟨rfl, _, World.drewN_drewN _ _ _⟩ | exact ⟨rfl, _, Eq.trans (World.drewN_drewN _ _ _) (congrArg (World.drewN _) (Nat.add_assoc _ _ _))⟩)))
       repeat (go_quiet (first | (go_at_call 174; (with_reducible refine (spec_l1Clip.calls a0_1 t115 _ A22.out).mono ?_); rintro e w' ⟨rfl, ⟨nd, rfl⟩⟩; (try first | exact ⟨rfl, _, World.drewN_drewN _ _ _⟩ | exact ⟨rfl, _, Eq.trans (World.drewN_drewN _ _ _) (congrArg (World.drewN _) (Nat.add_assoc _ _ _))⟩))); try go_wp2_with (first | (go_at_call 174; (with_reducible refine (spec_l1Clip.calls a0_1 t115 _ A22.out).mono ?_); rintro e w' ⟨rfl, ⟨nd, rfl⟩⟩; (try first | exact ⟨rfl, _, World.drewN_drewN _ _ _⟩ | exact ⟨rfl, _, Eq.trans (World.drewN_drewN _ _ _) (congrArg (World.drewN _) (Nat.add_assoc _ _ _))⟩))))
       go_ret
       exact ⟨zq2, zq12⟩
     ·rw [if_neg c23] at H
      have c23b0 : (t115 == a0_1) = false := beq_eq_false_iff_ne.mpr c23
      have c23b1 : (t115 != a0_1) = true := bne_iff_ne.mpr c23
      obtain rfl := Option.some.inj H
      have hcz27_0 : wc.cell? ⟨gb114, 0, none⟩ = some (.int .i64 a0_0) := (blk_cell BK114.out 0).trans rfl
      have hcz27_1 : wc.cell? ⟨gb114, 1, none⟩ = some (.int .i64 a0_1) := (blk_cell BK114.out 1).trans rfl
      have hcz27_2 : wc.cell? ⟨gb114, 2, none⟩ = some (.string a0_2) := (blk_cell BK114.out 2).trans rfl
      have hcz27_3 : wc.cell? ⟨gb114, 3, none⟩ = some (.slice A0_3 l0_3.length c0_3) := (blk_cell BK114.out 3).trans rfl
      have hfz27_0 := blk_frozen BK114.out 0
      have hfz27_1 := blk_frozen BK114.out 1
      have hfz27_2 := blk_frozen BK114.out 2
      have hfz27_3 := blk_frozen BK114.out 3
      go_wp2_with (first | (go_at_call 174; (with_reducible refine (spec_l1Clip.calls a0_1 t115 _ A22.out).mono ?_); rintro e w' ⟨rfl, ⟨nd, rfl⟩⟩; (try first | exact ⟨rfl, _, World.drewN_drewN _ _ _⟩ | exact ⟨rfl, _, Eq.trans (World.drewN_drewN _ _ _) (congrArg (World.drewN _) (Nat.add_assoc _ _ _))⟩)))
      repeat (go_quiet (first | (go_at_call 174; (with_reducible refine (spec_l1Clip.calls a0_1 t115 _ A22.out).mono ?_); rintro e w' ⟨rfl, ⟨nd, rfl⟩⟩; (try first | exact ⟨rfl, _, World.drewN_drewN _ _ _⟩ | exact ⟨rfl, _, Eq.trans (World.drewN_drewN _ _ _) (congrArg (World.drewN _) (Nat.add_assoc _ _ _))⟩))); try go_wp2_with (first | (go_at_call 174; (with_reducible refine (spec_l1Clip.calls a0_1 t115 _ A22.out).mono ?_); rintro e w' ⟨rfl, ⟨nd, rfl⟩⟩; (try first | exact ⟨rfl, _, World.drewN_drewN _ _ _⟩ | exact ⟨rfl, _, Eq.trans (World.drewN_drewN _ _ _) (congrArg (World.drewN _) (Nat.add_assoc _ _ _))⟩))))
      go_ret
      exact ⟨zq2, zq12⟩
    ·rw [if_neg c20] at H
     have c20b0 : (a0_0 == 2) = false := beq_eq_false_iff_ne.mpr c20
     have c20b1 : (a0_0 != 2) = true := bne_iff_ne.mpr c20
     have HC28 := zA H
     clear H
     go_upto_region 8 with (fail)
     repeat (go_quiet (fail); go_upto_region 8 with (fail))
     have H := HC28.out
     clear HC28
     by_cases c29 : a0_0 = 4
     ·rw [if_pos c29] at H
      have c29b0 : (a0_0 == 4) = true := beq_iff_eq.mpr c29
      have c29b1 : (a0_0 != 4) = false := bne_eq_false_iff_eq.mpr c29
      clear c29
      have HC30 := zA H
      clear H
      go_upto_region 9 with (fail)
      repeat (go_quiet (fail); go_upto_region 9 with (fail))
      have H := HC30.out
      clear HC30
      by_cases c31 : (a0_2.size : Int) ≤ 20
      ·rw [if_pos c31] at H
       have c31b0 : decide ((a0_2.size : Int) ≤ 20) = true := decide_eq_true c31
       have c31b1 : decide (a0_2.size ≤ 20) = true := decide_eq_true zq57
       clear c31
       by_cases c32 : a0_1 = 0
       ·rw [if_pos c32] at H
        have c32b0 : (a0_1 == 0) = true := beq_iff_eq.mpr c32
        have c32b1 : (a0_1 != 0) = false := bne_eq_false_iff_eq.mpr c32
        clear c32
        obtain rfl := Option.some.inj H
        have hcz33_0 : wc.cell? ⟨gb114, 0, none⟩ = some (.int .i64 a0_0) := (blk_cell BK114.out 0).trans rfl
        have hcz33_1 : wc.cell? ⟨gb114, 1, none⟩ = some (.int .i64 a0_1) := (blk_cell BK114.out 1).trans rfl
        have hcz33_2 : wc.cell? ⟨gb114, 2, none⟩ = some (.string a0_2) := (blk_cell BK114.out 2).trans rfl
        have hcz33_3 : wc.cell? ⟨gb114, 3, none⟩ = some (.slice A0_3 l0_3.length c0_3) := (blk_cell BK114.out 3).trans rfl
        have hfz33_0 := blk_frozen BK114.out 0
        have hfz33_1 := blk_frozen BK114.out 1
        have hfz33_2 := blk_frozen BK114.out 2
        have hfz33_3 := blk_frozen BK114.out 3
        go_wp2
        repeat (go_quiet (fail); try go_wp2)
        go_ret
        exact ⟨zq2, zq12⟩
       ·rw [if_neg c32] at H
        have c32b0 : (a0_1 == 0) = false := beq_eq_false_iff_ne.mpr c32
        have c32b1 : (a0_1 != 0) = true := bne_iff_ne.mpr c32
        obtain rfl := Option.some.inj H
        have hcz34_0 : wc.cell? ⟨gb114, 0, none⟩ = some (.int .i64 a0_0) := (blk_cell BK114.out 0).trans rfl
        have hcz34_1 : wc.cell? ⟨gb114, 1, none⟩ = some (.int .i64 a0_1) := (blk_cell BK114.out 1).trans rfl
        have hcz34_2 : wc.cell? ⟨gb114, 2, none⟩ = some (.string a0_2) := (blk_cell BK114.out 2).trans rfl
        have hcz34_3 : wc.cell? ⟨gb114, 3, none⟩ = some (.slice A0_3 l0_3.length c0_3) := (blk_cell BK114.out 3).trans rfl
        have hfz34_0 := blk_frozen BK114.out 0
        have hfz34_1 := blk_frozen BK114.out 1
        have hfz34_2 := blk_frozen BK114.out 2
        have hfz34_3 := blk_frozen BK114.out 3
        go_wp2
        repeat (go_quiet (fail); try go_wp2)
        go_ret
        exact ⟨zq2, zq12⟩
      ·rw [if_neg c31] at H
       have c31b0 : decide ((a0_2.size : Int) ≤ 20) = false := decide_eq_false c31
       have c31b1 : decide (a0_2.size ≤ 20) = false := decide_eq_false zq57
       clear c31
       obtain rfl := Option.some.inj H
       have hcz35_0 : wc.cell? ⟨gb114, 0, none⟩ = some (.int .i64 a0_0) := (blk_cell BK114.out 0).trans rfl
       have hcz35_1 : wc.cell? ⟨gb114, 1, none⟩ = some (.int .i64 a0_1) := (blk_cell BK114.out 1).trans rfl
       have hcz35_2 : wc.cell? ⟨gb114, 2, none⟩ = some (.string a0_2) := (blk_cell BK114.out 2).trans rfl
       have hcz35_3 : wc.cell? ⟨gb114, 3, none⟩ = some (.slice A0_3 l0_3.length c0_3) := (blk_cell BK114.out 3).trans rfl
       have hfz35_0 := blk_frozen BK114.out 0
       have hfz35_1 := blk_frozen BK114.out 1
       have hfz35_2 := blk_frozen BK114.out 2
       have hfz35_3 := blk_frozen BK114.out 3
       go_wp2
       repeat (go_quiet (fail); try go_wp2)
       go_ret
       exact ⟨zq2, zq12⟩
     ·rw [if_neg c29] at H
      have c29b0 : (a0_0 == 4) = false := beq_eq_false_iff_ne.mpr c29
      have c29b1 : (a0_0 != 4) = true := bne_iff_ne.mpr c29
      have HC36 := zA H
      clear H
      go_upto_region 10 with (fail)
      repeat (go_quiet (fail); go_upto_region 10 with (fail))
      have H := HC36.out
      clear HC36
      by_cases c37 : a0_0 = 6
      ·rw [if_pos c37] at H
       have c37b0 : (a0_0 == 6) = true := beq_iff_eq.mpr c37
       have c37b1 : (a0_0 != 6) = false := bne_eq_false_iff_eq.mpr c37
       clear c37
       have HC38 := zA H
       clear H
       go_upto_region 11 with (fail)
       repeat (go_quiet (fail); go_upto_region 11 with (fail))
       have H := HC38.out
       clear HC38
       obtain ⟨t116, A39, H⟩ := zB H
       try dsimp only at H
       by_cases c40 : t116 = true
       ·subst c40
        rw [if_pos rfl] at H
        by_cases c41 : a0_1 = 0
        ·rw [if_pos c41] at H
         have c41b0 : (a0_1 == 0) = true := beq_iff_eq.mpr c41
         have c41b1 : (a0_1 != 0) = false := bne_eq_false_iff_eq.mpr c41
         clear c41
         obtain rfl := Option.some.inj H
         have hcz42_0 : wc.cell? ⟨gb114, 0, none⟩ = some (.int .i64 a0_0) := (blk_cell BK114.out 0).trans rfl
         have hcz42_1 : wc.cell? ⟨gb114, 1, none⟩ = some (.int .i64 a0_1) := (blk_cell BK114.out 1).trans rfl
         have hcz42_2 : wc.cell? ⟨gb114, 2, none⟩ = some (.string a0_2) := (blk_cell BK114.out 2).trans rfl
         have hcz42_3 : wc.cell? ⟨gb114, 3, none⟩ = some (.slice A0_3 l0_3.length c0_3) := (blk_cell BK114.out 3).trans rfl
         have hfz42_0 := blk_frozen BK114.out 0
         have hfz42_1 := blk_frozen BK114.out 1
         have hfz42_2 := blk_frozen BK114.out 2
         have hfz42_3 := blk_frozen BK114.out 3
         go_wp2_with (first | (go_at_call 175; (with_reducible refine (spec_OidOk.calls kj6 _ _ l0_3 true _ ?side1 ?side2 A39.out).mono ?_); (case side1 => repeat (first | exact (Kd.C_below HR0_3.out HB.out) | (with_reducible refine Kd.C_alloc ?_ _) | (with_reducible refine Kd.C_drewN ?_ _) | (with_reducible refine Kd.C_drew ?_))); (case side2 => exact HC0_3.out); rintro e w' ⟨rfl, ⟨nd, rfl⟩⟩; (try first | exact ⟨rfl, _, World.drewN_drewN _ _ _⟩ | exact ⟨rfl, _, Eq.trans (World.drewN_drewN _ _ _) (congrArg (World.drewN _) (Nat.add_assoc _ _ _))⟩)))
         repeat (go_quiet (first | (go_at_call 175; (with_reducible refine (spec_OidOk.calls kj6 _ _ l0_3 true _ ?side1 ?side2 A39.out).mono ?_); (case side1 => repeat (first | exact (Kd.C_below HR0_3.out HB.out) | (with_reducible refine Kd.C_alloc ?_ _) | (with_reducible refine Kd.C_drewN ?_ _) | (with_reducible refine Kd.C_drew ?_))); (case side2 => exact HC0_3.out); rintro e w' ⟨rfl, ⟨nd, rfl⟩⟩; (try first | exact ⟨rfl, _, World.drewN_drewN _ _ _⟩ | exact ⟨rfl, _, Eq.trans (World.drewN_drewN _ _ _) (congrArg (World.drewN _) (Nat.add_assoc _ _ _))⟩))); try go_wp2_with (first | (go_at_call 175; (with_reducible refine (spec_OidOk.calls kj6 _ _ l0_3 true _ ?side1 ?side2 A39.out).mono ?_); (case side1 => repeat (first | exact (Kd.C_below HR0_3.out HB.out) | (with_reducible refine Kd.C_alloc ?_ _) | (with_reducible refine Kd.C_drewN ?_ _) | (with_reducible refine Kd.C_drew ?_))); (case side2 => exact HC0_3.out); rintro e w' ⟨rfl, ⟨nd, rfl⟩⟩; (try first | exact ⟨rfl, _, World.drewN_drewN _ _ _⟩ | exact ⟨rfl, _, Eq.trans (World.drewN_drewN _ _ _) (congrArg (World.drewN _) (Nat.add_assoc _ _ _))⟩))))
         go_ret
         exact ⟨zq2, zq12⟩
        ·rw [if_neg c41] at H
         have c41b0 : (a0_1 == 0) = false := beq_eq_false_iff_ne.mpr c41
         have c41b1 : (a0_1 != 0) = true := bne_iff_ne.mpr c41
         obtain rfl := Option.some.inj H
         have hcz43_0 : wc.cell? ⟨gb114, 0, none⟩ = some (.int .i64 a0_0) := (blk_cell BK114.out 0).trans rfl
         have hcz43_1 : wc.cell? ⟨gb114, 1, none⟩ = some (.int .i64 a0_1) := (blk_cell BK114.out 1).trans rfl
         have hcz43_2 : wc.cell? ⟨gb114, 2, none⟩ = some (.string a0_2) := (blk_cell BK114.out 2).trans rfl
         have hcz43_3 : wc.cell? ⟨gb114, 3, none⟩ = some (.slice A0_3 l0_3.length c0_3) := (blk_cell BK114.out 3).trans rfl
         have hfz43_0 := blk_frozen BK114.out 0
         have hfz43_1 := blk_frozen BK114.out 1
         have hfz43_2 := blk_frozen BK114.out 2
         have hfz43_3 := blk_frozen BK114.out 3
         go_wp2_with (first | (go_at_call 175; (with_reducible refine (spec_OidOk.calls kj6 _ _ l0_3 true _ ?side1 ?side2 A39.out).mono ?_); (case side1 => repeat (first | exact (Kd.C_below HR0_3.out HB.out) | (with_reducible refine Kd.C_alloc ?_ _) | (with_reducible refine Kd.C_drewN ?_ _) | (with_reducible refine Kd.C_drew ?_))); (case side2 => exact HC0_3.out); rintro e w' ⟨rfl, ⟨nd, rfl⟩⟩; (try first | exact ⟨rfl, _, World.drewN_drewN _ _ _⟩ | exact ⟨rfl, _, Eq.trans (World.drewN_drewN _ _ _) (congrArg (World.drewN _) (Nat.add_assoc _ _ _))⟩)))
         repeat (go_quiet (first | (go_at_call 175; (with_reducible refine (spec_OidOk.calls kj6 _ _ l0_3 true _ ?side1 ?side2 A39.out).mono ?_); (case side1 => repeat (first | exact (Kd.C_below HR0_3.out HB.out) | (with_reducible refine Kd.C_alloc ?_ _) | (with_reducible refine Kd.C_drewN ?_ _) | (with_reducible refine Kd.C_drew ?_))); (case side2 => exact HC0_3.out); rintro e w' ⟨rfl, ⟨nd, rfl⟩⟩; (try first | exact ⟨rfl, _, World.drewN_drewN _ _ _⟩ | exact ⟨rfl, _, Eq.trans (World.drewN_drewN _ _ _) (congrArg (World.drewN _) (Nat.add_assoc _ _ _))⟩))); try go_wp2_with (first | (go_at_call 175; (with_reducible refine (spec_OidOk.calls kj6 _ _ l0_3 true _ ?side1 ?side2 A39.out).mono ?_); (case side1 => repeat (first | exact (Kd.C_below HR0_3.out HB.out) | (with_reducible refine Kd.C_alloc ?_ _) | (with_reducible refine Kd.C_drewN ?_ _) | (with_reducible refine Kd.C_drew ?_))); (case side2 => exact HC0_3.out); rintro e w' ⟨rfl, ⟨nd, rfl⟩⟩; (try first | exact ⟨rfl, _, World.drewN_drewN _ _ _⟩ | exact ⟨rfl, _, Eq.trans (World.drewN_drewN _ _ _) (congrArg (World.drewN _) (Nat.add_assoc _ _ _))⟩))))
         go_ret
         exact ⟨zq2, zq12⟩
       ·replace c40 := Bool.eq_false_iff.mpr c40
        subst c40
        rw [if_neg zF] at H
        obtain rfl := Option.some.inj H
        have hcz44_0 : wc.cell? ⟨gb114, 0, none⟩ = some (.int .i64 a0_0) := (blk_cell BK114.out 0).trans rfl
        have hcz44_1 : wc.cell? ⟨gb114, 1, none⟩ = some (.int .i64 a0_1) := (blk_cell BK114.out 1).trans rfl
        have hcz44_2 : wc.cell? ⟨gb114, 2, none⟩ = some (.string a0_2) := (blk_cell BK114.out 2).trans rfl
        have hcz44_3 : wc.cell? ⟨gb114, 3, none⟩ = some (.slice A0_3 l0_3.length c0_3) := (blk_cell BK114.out 3).trans rfl
        have hfz44_0 := blk_frozen BK114.out 0
        have hfz44_1 := blk_frozen BK114.out 1
        have hfz44_2 := blk_frozen BK114.out 2
        have hfz44_3 := blk_frozen BK114.out 3
        go_wp2_with (first | (go_at_call 175; (with_reducible refine (spec_OidOk.calls kj6 _ _ l0_3 false _ ?side1 ?side2 A39.out).mono ?_); (case side1 => repeat (first | exact (Kd.C_below HR0_3.out HB.out) | (with_reducible refine Kd.C_alloc ?_ _) | (with_reducible refine Kd.C_drewN ?_ _) | (with_reducible refine Kd.C_drew ?_))); (case side2 => exact HC0_3.out); rintro e w' ⟨rfl, ⟨nd, rfl⟩⟩; (try first | exact ⟨rfl, _, World.drewN_drewN _ _ _⟩ | exact ⟨rfl, _, Eq.trans (World.drewN_drewN _ _ _) (congrArg (World.drewN _) (Nat.add_assoc _ _ _))⟩)))
        repeat (go_quiet (first | (go_at_call 175; (with_reducible refine (spec_OidOk.calls kj6 _ _ l0_3 false _ ?side1 ?side2 A39.out).mono ?_); (case side1 => repeat (first | exact (Kd.C_below HR0_3.out HB.out) | (with_reducible refine Kd.C_alloc ?_ _) | (with_reducible refine Kd.C_drewN ?_ _) | (with_reducible refine Kd.C_drew ?_))); (case side2 => exact HC0_3.out); rintro e w' ⟨rfl, ⟨nd, rfl⟩⟩; (try first | exact ⟨rfl, _, World.drewN_drewN _ _ _⟩ | exact ⟨rfl, _, Eq.trans (World.drewN_drewN _ _ _) (congrArg (World.drewN _) (Nat.add_assoc _ _ _))⟩))); try go_wp2_with (first | (go_at_call 175; (with_reducible refine (spec_OidOk.calls kj6 _ _ l0_3 false _ ?side1 ?side2 A39.out).mono ?_); (case side1 => repeat (first | exact (Kd.C_below HR0_3.out HB.out) | (with_reducible refine Kd.C_alloc ?_ _) | (with_reducible refine Kd.C_drewN ?_ _) | (with_reducible refine Kd.C_drew ?_))); (case side2 => exact HC0_3.out); rintro e w' ⟨rfl, ⟨nd, rfl⟩⟩; (try first | exact ⟨rfl, _, World.drewN_drewN _ _ _⟩ | exact ⟨rfl, _, Eq.trans (World.drewN_drewN _ _ _) (congrArg (World.drewN _) (Nat.add_assoc _ _ _))⟩))))
        go_ret
        exact ⟨zq2, zq12⟩
      ·rw [if_neg c37] at H
       have c37b0 : (a0_0 == 6) = false := beq_eq_false_iff_ne.mpr c37
       have c37b1 : (a0_0 != 6) = true := bne_iff_ne.mpr c37
       have HC45 := zA H
       clear H
       go_upto_region 12 with (fail)
       repeat (go_quiet (fail); go_upto_region 12 with (fail))
       have H := HC45.out
       clear HC45
       obtain rfl := Option.some.inj H
       go_wp2
       repeat (go_quiet (fail); try go_wp2)
       go_ret
       exact ⟨zq2, zq12⟩

/-! ### spec_PutTlv: function 126 -/
def spec_PutTlv.j0 : Nat → Int → List Int → List Int → Bool → Option (List Int)
 | 0, _, _, _, _ => none
 | k + 1, x1, x2, x7, x18 => if x18 = true then (some x7) else (if x7.length < 140737488355328 then ((some (x7 ++ [(x1) % 256] : List Int)).bind fun y124 => (if (x2.length : Int) > 127 then (if y124.length < 140737488355328 then ((some (y124 ++ [129] : List Int)).bind fun y127 => (if y127.length < 140737488355328 then ((some (y127 ++ [((x2.length : Int)) % 256] : List Int)).bind fun y130 => (if y130.length + x2.length < 140737488355328 then (some (y130 ++ x2)) else (none))) else (none))) else (none)) else (if y124.length < 140737488355328 then ((some (y124 ++ [((x2.length : Int)) % 256] : List Int)).bind fun y136 => (if y136.length + x2.length < 140737488355328 then (some (y136 ++ x2)) else (none))) else (none)))) else (none))
def spec_PutTlv.f (k : Nat) (l0 : List Int) (a1 : Int) (l2 : List Int) : Option (List Int) := (some (([] : List Int) : List Int)).bind fun y117 => (if y117.length + l0.length < 140737488355328 then ((some (y117 ++ l0 : List Int)).bind fun y120 => ((spec_l1In.f a1 0 255).bind fun t123 => (if t123 = true then (spec_PutTlv.j0 k a1 l2 y120 (decide ((l2.length : Int) > 250))) else (spec_PutTlv.j0 k a1 l2 y120 true)))) else (none))
theorem spec_PutTlv.mono_l : ∀ k, (∀ y0 y1 y2 y3, LeO (spec_PutTlv.j0 k y0 y1 y2 y3) (spec_PutTlv.j0 (k + 1) y0 y1 y2 y3))
 | 0 => fun _ _ _ _ r h => by simp [spec_PutTlv.j0] at h
 | k + 1 => by
  have ih0 := spec_PutTlv.mono_l k
  ·intro y0 y1 y2 y3
   unfold spec_PutTlv.j0
   exact zR
theorem spec_PutTlv.mono : ∀ a0 a1 a2 k, LeO (spec_PutTlv.f k a0 a1 a2) (spec_PutTlv.f (k + 1) a0 a1 a2) := by
 intro a0 a1 a2 k
 have ih0 := spec_PutTlv.mono_l k
 unfold spec_PutTlv.f
 exact zR
set_option maxHeartbeats 8000000 in
set_option maxRecDepth 100000 in
theorem spec_PutTlv.calls (k : Nat) (A0 : Option Addr) (c0 : Nat) (l0 : List Int) (a1 : Int) (A2 : Option Addr) (c2 : Nat) (l2 : List Int) (r : List Int) (w : World) (hr0 : Kd.C (Kd.int .u8) w A0 l0.length l0) (hc0 : l0.length ≤ c0) (hr2 : Kd.C (Kd.int .u8) w A2 l2.length l2) (hc2 : l2.length ≤ c2) (h : spec_PutTlv.f k l0 a1 l2 = some r) :
  Calls Try.prog 126 #[.slice A0 l0.length c0, .int .i64 a1, .slice A2 l2.length c2] w fun e w' => ∃ v0_ : Value, e = .returned (v0_) ∧ Kd.R (Kd.int .u8) 5 w' w.heap.size (fun _ => True) v0_ r ∧ Below w.heap.size w w' := by
 have HR0 := zA hr0
 have HC0 := zA hc0
 clear hr0 hc0
 have HR2 := zA hr2
 have HC2 := zA hc2
 clear hr2 hc2
 have HB := zA (Below.refl w.heap.size w)
 unfold spec_PutTlv.f at h
 have H := h
 clear h
 have HC4 := zA H
 clear H
 go_enter Try.func126, Try.ntmps126
 go_upto_region 0 with (fail)
 have H := HC4.out
 clear HC4
 have HC5 := zA H
 clear H
 go_upto_region 1 with (fail)
 have H := HC5.out
 clear HC5
 obtain ⟨y117, Ny117, H⟩ := zS (([] : List Int)) H
 obtain ⟨c6, H⟩ := zN H
 have LMc6 := zA c6
 clear c6
 obtain ⟨y120, Ny120, H⟩ := zS (y117 ++ l0) H
 have HC7 := zA H
 clear H
 go_upto_region 2 with (first | ((with_reducible refine gate_dst (N := 8) rfl ?_); (try (refine gate_guard zq72 ?_; dsimp only)); refine Kd.R_lit (Kd.int .u8) _ 5 ?hg (N := 8) ?hd (xs := ([] : List Int)) (inner := []) (ok := fun _ => True) (okp := fun _ => True) ?hr ?hp (fun _ hk => hk) trivial (Below.refl _ _) (Nat.le_refl _) zq89 ?_; (case hd => rfl); (case hg => rfl); (case hr => first | (go_simp; done) | (go_simp; rfl)); (case hp => exact (Reps.none _ _)); intro v118 w8 ho9 hb hg_ hnew_; clear hg_ hnew_; (first | rw [← Ny117.out] at ho9 | (simp only [Int.reduceToNat] at ho9; rw [← Ny117.out] at ho9)); have HO119 := zA (Kd.R_lower ho9 (below_size zq0)); replace HB := zA (below_step zq0 hb); clear hb ho9) | ((with_reducible refine gate_builtin (b := .append) (xs := #[.tmp 8, .tmp 9]) rfl ?_); (try (refine gate_guard zq72 ?_; dsimp only)); at_builtin; refine Kd.R_append_rows (Kd.int .u8) (w0 := w) w.heap.size rfl (.tmp 8) (.tmp 9) 22 5 (.int .u8 0) 1 rfl Try.underlying22 info5 rfl zq37 zq57 v118 y117 l0 _ _ _ (fun _ => True) (fun _ => False) rfl rfl ?aO ?aR (fun _ _ h => h) (fun _ h => h.elim) ?aF ?aB ?aS ?aL ?_; (case aR => repeat (first | exact (Kd.C_below HR0.out HB.out) | (with_reducible refine Kd.C_alloc ?_ _) | (with_reducible refine Kd.C_drewN ?_ _) | (with_reducible refine Kd.C_drew ?_))); (case aB => exact zq0); (case aF => exact (fun _ _ => trivial)); (case aO => exact (by (with_reducible repeat (first | apply Kd.R_alloc | apply Kd.R_drewN | apply Kd.R_drew)); exact HO119.out)); (case aS => exact (below_size zq0)); (case aL => have := LMc6.out; omega); intro v121 w10 ho hb hg hat; rw [← Ny120.out] at ho; replace HB := zA (hb); have HO122 := zA (ho); clear HO119; clear ho hb hg hat))
 (try simp only [Act.put, List.setIfInBounds_toArray, List.set_cons_zero, List.set_cons_succ])
 (try (rw [drewN_self w10]; generalize hq_ : World.drewN w10 _ = w10; replace HO122 := zA (Kd.R_at hq_ HO122.out); replace HB := zA (below_at hq_ HB.out); clear hq_))
 have H := HC7.out
 clear HC7
 have HC11 := zA H
 clear H
 go_upto_region 2 with (fail)
 go_cut [18] (fun v18 wc => ∃ (kq : Nat) (x18_10 : Bool), v18 = .bool x18_10 ∧ Aside0 (spec_PutTlv.j0 kq a1 l2 y120 x18_10 = some r) ∧ Aside0 (kq ≤ k) ∧ Aside0 (Kd.R (Kd.int .u8) 5 wc w.heap.size (fun _ => True) v121 y120) ∧ Aside0 (Below w.heap.size w wc))
 case first =>
  have H := HC11.out
  clear HC11
  obtain ⟨t123, A12, H⟩ := zB H
  try dsimp only at H
  by_cases c13 : t123 = true
  ·subst c13
   rw [if_pos rfl] at H
   have H' := zA H
   clear H
   go_wp2_with (first | ((with_reducible refine gate_callee (f := 150) rfl ?_); refine goesL_ (some 12) rfl rfl Try.func150 (by kernel_rfl) rfl #[.int .i64 a1, .int .i64 0, .int .i64 255] rfl zq1 ?_; (with_reducible refine (spec_l1In.calls a1 0 255 true _ A12.out).mono ?_); rintro e w' ⟨rfl, ⟨nd, rfl⟩⟩; refine ⟨_, rfl, ?_⟩))
   go_meet
   case rel => exact ⟨_, (decide ((l2.length : Int) > 250)), zq8, H', ⟨zq54⟩, ⟨zq76⟩, ⟨zq0⟩⟩
  ·replace c13 := Bool.eq_false_iff.mpr c13
   subst c13
   rw [if_neg zF] at H
   have H' := zA H
   clear H
   go_wp2_with (first | ((with_reducible refine gate_callee (f := 150) rfl ?_); refine goesL_ (some 12) rfl rfl Try.func150 (by kernel_rfl) rfl #[.int .i64 a1, .int .i64 0, .int .i64 255] rfl zq1 ?_; (with_reducible refine (spec_l1In.calls a1 0 255 false _ A12.out).mono ?_); rintro e w' ⟨rfl, ⟨nd, rfl⟩⟩; refine ⟨_, rfl, ?_⟩))
   go_meet
   case rel => exact ⟨_, (true), zq8, H', ⟨zq54⟩, ⟨zq76⟩, ⟨zq0⟩⟩
 case rest =>
  clear HC11
  try clear c1
  try clear c2
  try clear p2
  try clear c6
  try clear c12
  try clear c13
  obtain ⟨kq, x18_10, rfl, HA, HJ10, HO_7, HB⟩ := hcut
  cases kq with
  | zero => exact absurd HA.out (by simp [spec_PutTlv.j0])
  | succ kj10 =>
   have H := HA.out
   clear HA
   simp only [spec_PutTlv.j0] at H
   by_cases c14 : x18_10 = true
   ·subst c14
    rw [if_pos rfl] at H
    have HC15 := zA H
    clear H
    go_upto_region 3 with (fail)
    have H := HC15.out
    clear HC15
    obtain rfl := Option.some.inj H
    go_wp2
    go_ret
    exact ⟨_, zq2, zq87, zq0⟩
   ·replace c14 := Bool.eq_false_iff.mpr c14
    subst c14
    rw [if_neg zF] at H
    have HC16 := zA H
    clear H
    go_upto_region 4 with (fail)
    have H := HC16.out
    clear HC16
    obtain ⟨c17, H⟩ := zN H
    have LMc17 := zA c17
    clear c17
    obtain ⟨y124, Ny124, H⟩ := zS (y120 ++ [(a1) % 256]) H
    have HC18 := zA H
    clear H
    go_upto_region 5 with (first | ((with_reducible refine gate_builtin (b := .append) (xs := #[.tmp 20, .tmp 23]) rfl ?_); (try (refine gate_guard zq72 ?_; dsimp only)); at_builtin; refine Kd.R_append (Kd.int .u8) (w0 := w) w.heap.size rfl (.tmp 20) (.tmp 23) 22 5 (.int .u8 0) 1 rfl Try.underlying22 info5 rfl zq37 zq57 v121 y120 ((a1) % 256) [.int .u8 ((a1) % 256)] (fun _ => True) (fun _ => False) rfl rfl ?aP (fun _ hk => hk.elim) ?aF ?aO ?aB ?aS ?aL ?_; (case aP => exact rfl); (case aB => exact zq0); (case aF => exact (fun _ _ => trivial)); (case aO => exact zq87); (case aS => exact (below_size zq0)); (case aL => have := LMc17.out; omega); intro v125 w19 ho hb hg hat; rw [← Ny124.out] at ho; replace HB := zA (hb); have HO126 := zA (ho); clear HO_7; clear ho hb hg hat))
    (try simp only [Act.put, List.setIfInBounds_toArray, List.set_cons_zero, List.set_cons_succ])
    (try (rw [drewN_self w19]; generalize hq_ : World.drewN w19 _ = w19; replace HO126 := zA (Kd.R_at hq_ HO126.out); replace HB := zA (below_at hq_ HB.out); clear hq_))
    have H := HC18.out
    clear HC18
    by_cases c20 : (l2.length : Int) > 127
    ·rw [if_pos c20] at H
     have c20b0 : decide (127 < (l2.length : Int)) = true := decide_eq_true c20
     have c20b1 : decide (127 < l2.length) = true := decide_eq_true zq57
     clear c20
     have HC21 := zA H
     clear H
     go_upto_region 6 with (fail)
     have H := HC21.out
     clear HC21
     obtain ⟨c22, H⟩ := zN H
     have LMc22 := zA c22
     clear c22
     obtain ⟨y127, Ny127, H⟩ := zS (y124 ++ [129]) H
     have HC23 := zA H
     clear H
     go_upto_region 7 with (first | ((with_reducible refine gate_builtin (b := .append) (xs := #[.tmp 28, .tmp 29]) rfl ?_); (try (refine gate_guard zq72 ?_; dsimp only)); at_builtin; refine Kd.R_append (Kd.int .u8) (w0 := w) w.heap.size rfl (.tmp 28) (.tmp 29) 22 5 (.int .u8 0) 1 rfl Try.underlying22 info5 rfl zq37 zq57 v125 y124 129 [.int .u8 129] (fun _ => True) (fun _ => False) rfl rfl ?aP (fun _ hk => hk.elim) ?aF ?aO ?aB ?aS ?aL ?_; (case aP => exact rfl); (case aB => exact zq0); (case aF => exact (fun _ _ => trivial)); (case aO => exact zq77); (case aS => exact (below_size zq0)); (case aL => have := LMc22.out; omega); intro v128 w24 ho hb hg hat; rw [← Ny127.out] at ho; replace HB := zA (hb); have HO129 := zA (ho); clear HO126; clear ho hb hg hat))
     (try simp only [Act.put, List.setIfInBounds_toArray, List.set_cons_zero, List.set_cons_succ])
     (try (rw [drewN_self w24]; generalize hq_ : World.drewN w24 _ = w24; replace HO129 := zA (Kd.R_at hq_ HO129.out); replace HB := zA (below_at hq_ HB.out); clear hq_))
     have H := HC23.out
     clear HC23
     obtain ⟨c25, H⟩ := zN H
     have LMc25 := zA c25
     clear c25
     obtain ⟨y130, Ny130, H⟩ := zS (y127 ++ [((l2.length : Int)) % 256]) H
     obtain ⟨c26, H⟩ := zN H
     have LMc26 := zA c26
     clear c26
     obtain ⟨y133, hy133⟩ : ∃ y_ : List Int, y_ = (y130 ++ l2) := ⟨_, rfl⟩
     rw [← hy133] at H
     have Ny133 := zA hy133
     clear hy133
     obtain rfl := Option.some.inj H
     go_wp2_with (first | ((with_reducible refine gate_builtin (b := .append) (xs := #[.tmp 31, .tmp 35]) rfl ?_); (try (refine gate_guard zq72 ?_; dsimp only)); at_builtin; refine Kd.R_append (Kd.int .u8) (w0 := w) w.heap.size rfl (.tmp 31) (.tmp 35) 22 5 (.int .u8 0) 1 rfl Try.underlying22 info5 rfl zq37 zq57 v128 y127 (((l2.length : Int)) % 256) [.int .u8 (((l2.length : Int)) % 256)] (fun _ => True) (fun _ => False) rfl rfl ?aP (fun _ hk => hk.elim) ?aF ?aO ?aB ?aS ?aL ?_; (case aP => exact rfl); (case aB => exact zq0); (case aF => exact (fun _ _ => trivial)); (case aO => exact (by (with_reducible repeat (first | apply Kd.R_alloc | apply Kd.R_drewN | apply Kd.R_drew)); exact HO129.out)); (case aS => exact (below_size zq0)); (case aL => have := LMc25.out; omega); intro v131 w27 ho hb hg hat; rw [← Ny130.out] at ho; replace HB := zA (hb); have HO132 := zA (ho); clear HO129; clear ho hb hg hat) | ((with_reducible refine gate_builtin (b := .append) (xs := #[.tmp 36, .tmp 37]) rfl ?_); (try (refine gate_guard zq72 ?_; dsimp only)); at_builtin; refine Kd.R_append_rows (Kd.int .u8) (w0 := w) w.heap.size rfl (.tmp 36) (.tmp 37) 22 5 (.int .u8 0) 1 rfl Try.underlying22 info5 rfl zq37 zq57 v131 y130 l2 _ _ _ (fun _ => True) (fun _ => False) rfl rfl ?aO ?aR (fun _ _ h => h) (fun _ h => h.elim) ?aF ?aB ?aS ?aL ?_; (case aR => repeat (first | exact (Kd.C_below HR2.out HB.out) | (with_reducible refine Kd.C_alloc ?_ _) | (with_reducible refine Kd.C_drewN ?_ _) | (with_reducible refine Kd.C_drew ?_))); (case aB => exact zq0); (case aF => exact (fun _ _ => trivial)); (case aO => exact (by (with_reducible repeat (first | apply Kd.R_alloc | apply Kd.R_drewN | apply Kd.R_drew)); exact HO132.out)); (case aS => exact (below_size zq0)); (case aL => have := LMc26.out; omega); intro v134 w28 ho hb hg hat; rw [← Ny133.out] at ho; replace HB := zA (hb); have HO135 := zA (ho); clear HO132; clear ho hb hg hat))
     go_ret
     exact ⟨_, zq2, (by (with_reducible repeat (first | apply Kd.R_alloc | apply Kd.R_drewN | apply Kd.R_drew)); exact HO135.out), zq0⟩
    ·rw [if_neg c20] at H
     have c20b0 : decide (127 < (l2.length : Int)) = false := decide_eq_false c20
     have c20b1 : decide (127 < l2.length) = false := decide_eq_false zq57
     clear c20
     have HC29 := zA H
     clear H
     go_upto_region 7 with (fail)
     have H := HC29.out
     clear HC29
     obtain ⟨c30, H⟩ := zN H
     have LMc30 := zA c30
     clear c30
     obtain ⟨y136, Ny136, H⟩ := zS (y124 ++ [((l2.length : Int)) % 256]) H
     obtain ⟨c31, H⟩ := zN H
     have LMc31 := zA c31
     clear c31
     obtain ⟨y139, hy139⟩ : ∃ y_ : List Int, y_ = (y136 ++ l2) := ⟨_, rfl⟩
     rw [← hy139] at H
     have Ny139 := zA hy139
     clear hy139
     obtain rfl := Option.some.inj H
     go_wp2_with (first | ((with_reducible refine gate_builtin (b := .append) (xs := #[.tmp 31, .tmp 35]) rfl ?_); (try (refine gate_guard zq72 ?_; dsimp only)); at_builtin; refine Kd.R_append (Kd.int .u8) (w0 := w) w.heap.size rfl (.tmp 31) (.tmp 35) 22 5 (.int .u8 0) 1 rfl Try.underlying22 info5 rfl zq37 zq57 v125 y124 (((l2.length : Int)) % 256) [.int .u8 (((l2.length : Int)) % 256)] (fun _ => True) (fun _ => False) rfl rfl ?aP (fun _ hk => hk.elim) ?aF ?aO ?aB ?aS ?aL ?_; (case aP => exact rfl); (case aB => exact zq0); (case aF => exact (fun _ _ => trivial)); (case aO => exact zq77); (case aS => exact (below_size zq0)); (case aL => have := LMc30.out; omega); intro v137 w32 ho hb hg hat; rw [← Ny136.out] at ho; replace HB := zA (hb); have HO138 := zA (ho); clear HO126; clear ho hb hg hat) | ((with_reducible refine gate_builtin (b := .append) (xs := #[.tmp 36, .tmp 37]) rfl ?_); (try (refine gate_guard zq72 ?_; dsimp only)); at_builtin; refine Kd.R_append_rows (Kd.int .u8) (w0 := w) w.heap.size rfl (.tmp 36) (.tmp 37) 22 5 (.int .u8 0) 1 rfl Try.underlying22 info5 rfl zq37 zq57 v137 y136 l2 _ _ _ (fun _ => True) (fun _ => False) rfl rfl ?aO ?aR (fun _ _ h => h) (fun _ h => h.elim) ?aF ?aB ?aS ?aL ?_; (case aR => repeat (first | exact (Kd.C_below HR2.out HB.out) | (with_reducible refine Kd.C_alloc ?_ _) | (with_reducible refine Kd.C_drewN ?_ _) | (with_reducible refine Kd.C_drew ?_))); (case aB => exact zq0); (case aF => exact (fun _ _ => trivial)); (case aO => exact (by (with_reducible repeat (first | apply Kd.R_alloc | apply Kd.R_drewN | apply Kd.R_drew)); exact HO138.out)); (case aS => exact (below_size zq0)); (case aL => have := LMc31.out; omega); intro v140 w33 ho hb hg hat; rw [← Ny139.out] at ho; replace HB := zA (hb); have HO141 := zA (ho); clear HO138; clear ho hb hg hat))
     go_ret
     exact ⟨_, zq2, (by (with_reducible repeat (first | apply Kd.R_alloc | apply Kd.R_drewN | apply Kd.R_drew)); exact HO141.out), zq0⟩

end Go.Proofs.Ytkcgghgkmgbphaa.PFnExactPutVal
