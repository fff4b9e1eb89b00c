-- WRITTEN BY a turned copy of the kit's printer (wip/patch_print.py), for this claim
import Derived.Test.YtkcgghgkmgbphaaPFnValsx0
import Derived.Test.YtkcgghgkmgbphaaPFnValsx5
import Derived.Test.YtkcgghgkmgbphaaPFnValsx6
namespace Go.Proofs.Ytkcgghgkmgbphaa.PFnVals
open Go.RowKit Go.Proofs.YtkcgghgkmgbphaaW.PrintWords Go.Proofs.YtkcgghgkmgbphaaW.PrintLast Go.Proofs.YtkcgghgkmgbphaaW.PrintMore
attribute [local go_sem] max2_int min2_int max_two min_two max_three min_three max_four min_four   -- for this text's walks alone
set_option linter.unusedVariables false
set_option linter.unusedSimpArgs false

attribute [local go_sem] cell_setCell_m
/-! ### spec_ValOk: function 91 -/
def spec_ValOk.j0 : Nat → Int → Bool → Int → Int → ByteArray → List Int → Option (Bool)
 | 0, _, _, _, _, _, _ => none
 | k + 1, x4, x5, x371000, x371001, x371002, x371003 => if x5 = true then (if x371001 = 0 then (if x371002.toList = ([] : List UInt8) then (some ((x371003.length : Int) == 0)) else (some false)) else (some false)) else (if x4 = 2 then ((spec_l1Clip.f x371001).bind fun t371 => (if t371 = x371001 then (if x371002.toList = ([] : List UInt8) then (some ((x371003.length : Int) == 0)) else (some false)) else (some false))) else (if x4 = 4 then (if (x371002.size : Int) ≤ 20 then (if x371001 = 0 then (some ((x371003.length : Int) == 0)) else (some false)) else (some false)) else (if x4 = 6 then ((spec_OidOk.f k x371003).bind fun t372 => (if t372 = true then (if x371001 = 0 then (some (x371002.toList == ([] : List UInt8))) else (some false)) else (some false))) else (some false))))
def spec_ValOk.f (k : Nat) (a0_0 : Int) (a0_1 : Int) (a0_2 : ByteArray) (l0_3 : List Int) : Option (Bool) := if a0_0 = 5 then (spec_ValOk.j0 k a0_0 (a0_0 == 5) a0_0 a0_1 a0_2 l0_3) else (if a0_0 = 128 then (spec_ValOk.j0 k a0_0 (a0_0 == 128) a0_0 a0_1 a0_2 l0_3) else (spec_ValOk.j0 k a0_0 (a0_0 == 130) a0_0 a0_1 a0_2 l0_3))
theorem spec_ValOk.mono_l : ∀ k, (∀ y0 y1 y2 y3 y4 y5, LeO (spec_ValOk.j0 k y0 y1 y2 y3 y4 y5) (spec_ValOk.j0 (k + 1) y0 y1 y2 y3 y4 y5))
 | 0 => fun _ _ _ _ _ _ r h => by simp [spec_ValOk.j0] at h
 | k + 1 => by
  have ih0 := spec_ValOk.mono_l k
  ·intro y0 y1 y2 y3 y4 y5
   unfold spec_ValOk.j0
   have m0_ := @spec_OidOk.mono
   exact zR
theorem spec_ValOk.mono : ∀ a0 a1 a2 a3 k, LeO (spec_ValOk.f k a0 a1 a2 a3) (spec_ValOk.f (k + 1) a0 a1 a2 a3) := by
 intro a0 a1 a2 a3 k
 have ih0 := spec_ValOk.mono_l k
 unfold spec_ValOk.f
 have m0_ := @spec_OidOk.mono
 exact zR
set_option maxHeartbeats 8000000 in
set_option maxRecDepth 100000 in
theorem spec_ValOk.calls (k : Nat) (a0_0 : Int) (a0_1 : Int) (a0_2 : ByteArray) (A0_3 : Option Addr) (c0_3 : Nat) (l0_3 : List Int) (r : Bool) (w : World) (hr0_3 : Kd.C (Kd.int .i64) w A0_3 l0_3.length l0_3) (hc0_3 : l0_3.length ≤ c0_3) (h : spec_ValOk.f k a0_0 a0_1 a0_2 l0_3 = some r) :
  Calls Try.prog 91 #[.agg #[.int .i64 a0_0, .int .i64 a0_1, .string a0_2, .slice A0_3 l0_3.length c0_3]] w fun e w' => e = .returned (.bool r) ∧ Below w.heap.size w w' := by
 have hu76 := Try.underlying76
 have HR0_3 := zA hr0_3
 have HC0_3 := zA hc0_3
 clear hr0_3 hc0_3
 have HB := zA (Below.refl w.heap.size w)
 unfold spec_ValOk.f at h
 have H := h
 clear h
 have HC2 := zA H
 clear H
 go_enter Try.func91, Try.ntmps91
 go_upto_region 0 with (fail)
 repeat (go_quiet (fail); go_upto_region 0 with (fail))
 have H := HC2.out
 clear HC2
 have HC3 := zA H
 clear H
 go_upto_region 1 with (first | ((with_reducible refine gate_dst (N := 1) rfl ?_); (try (refine gate_guard zq84 ?_; dsimp only)); refine box_event ?hg (N := 1) ?hd (cs := #[.int .i64 a0_0, .int .i64 a0_1, .string a0_2, .slice A0_3 l0_3.length c0_3]) (t := 76) ?hr ?_; (case hd => rfl); (case hg => rfl); (case hr => first | (go_simp; done) | (go_simp; rfl)); intro gb370 hg w4 hbox hb; have BK370 := zA (hbox); have GW370 := zA ((zq11 : w.heap.size ≤ gb370)); have GE370 := zA ((zq11 : w.heap.size ≤ gb370)); replace HB := zA (below_step zq0 hb); clear hb hbox hg))
 repeat (go_quiet (first | ((with_reducible refine gate_dst (N := 1) rfl ?_); (try (refine gate_guard zq84 ?_; dsimp only)); refine box_event ?hg (N := 1) ?hd (cs := #[.int .i64 a0_0, .int .i64 a0_1, .string a0_2, .slice A0_3 l0_3.length c0_3]) (t := 76) ?hr ?_; (case hd => rfl); (case hg => rfl); (case hr => first | (go_simp; done) | (go_simp; rfl)); intro gb370 hg w4 hbox hb; have BK370 := zA (hbox); have GW370 := zA ((zq11 : w.heap.size ≤ gb370)); have GE370 := zA ((zq11 : w.heap.size ≤ gb370)); replace HB := zA (below_step zq0 hb); clear hb hbox hg)); go_upto_region 1 with (first | ((with_reducible refine gate_dst (N := 1) rfl ?_); (try (refine gate_guard zq84 ?_; dsimp only)); refine box_event ?hg (N := 1) ?hd (cs := #[.int .i64 a0_0, .int .i64 a0_1, .string a0_2, .slice A0_3 l0_3.length c0_3]) (t := 76) ?hr ?_; (case hd => rfl); (case hg => rfl); (case hr => first | (go_simp; done) | (go_simp; rfl)); intro gb370 hg w4 hbox hb; have BK370 := zA (hbox); have GW370 := zA ((zq11 : w.heap.size ≤ gb370)); have GE370 := zA ((zq11 : w.heap.size ≤ gb370)); replace HB := zA (below_step zq0 hb); clear hb hbox hg)))
 (try simp only [Act.put, List.setIfInBounds_toArray, List.set_cons_zero, List.set_cons_succ])
 have H := HC3.out
 clear HC3
 have HC5 := zA H
 clear H
 have hcz6_0 : w4.cell? ⟨gb370, 0, none⟩ = some (.int .i64 a0_0) := (blk_cell BK370.out 0).trans rfl
 have hcz6_1 : w4.cell? ⟨gb370, 1, none⟩ = some (.int .i64 a0_1) := (blk_cell BK370.out 1).trans rfl
 have hcz6_2 : w4.cell? ⟨gb370, 2, none⟩ = some (.string a0_2) := (blk_cell BK370.out 2).trans rfl
 have hcz6_3 : w4.cell? ⟨gb370, 3, none⟩ = some (.slice A0_3 l0_3.length c0_3) := (blk_cell BK370.out 3).trans rfl
 have hfz6_0 := blk_frozen BK370.out 0
 have hfz6_1 := blk_frozen BK370.out 1
 have hfz6_2 := blk_frozen BK370.out 2
 have hfz6_3 := blk_frozen BK370.out 3
 go_upto_region 2 with (fail)
 repeat (go_quiet (fail); go_upto_region 2 with (fail))
 have H := HC5.out
 clear HC5
 have HC7 := zA H
 clear H
 go_upto_if 5 with (fail)
 repeat (go_quiet (fail); go_upto_if 5 with (fail))
 go_cut [5] (fun v5 wc => ∃ (kq : Nat) (x5_6 : Bool), v5 = .bool x5_6 ∧ Aside0 (spec_ValOk.j0 kq a0_0 x5_6 a0_0 a0_1 a0_2 l0_3 = some r) ∧ Aside0 (kq ≤ k) ∧ Aside0 (wc.heap[gb370]? = some (.cells #[.int .i64 a0_0, .int .i64 a0_1, .string a0_2, (.slice A0_3 l0_3.length c0_3)] 76 (0, 0))) ∧ Aside0 (Below w.heap.size w wc))
 case first =>
  have H := HC7.out
  clear HC7
  by_cases c8 : a0_0 = 5
  ·rw [if_pos c8] at H
   have c8b0 : (a0_0 == 5) = true := beq_iff_eq.mpr c8
   have c8b1 : (a0_0 != 5) = false := bne_eq_false_iff_eq.mpr c8
   clear c8
   (first | rw [c8b0] | (simp only [i64_w, i32_w]; rw [c8b0]) | skip)
   have H' := zA H
   clear H
   go_wp2
   repeat (go_quiet (fail); try go_wp2)
   go_meet
   case rel => exact ⟨_, ((a0_0 == 5)), zq10, H', ⟨zq132⟩, ⟨zq182⟩, ⟨zq28⟩⟩
  ·rw [if_neg c8] at H
   have c8b0 : (a0_0 == 5) = false := beq_eq_false_iff_ne.mpr c8
   have c8b1 : (a0_0 != 5) = true := bne_iff_ne.mpr c8
   (first | rw [c8b0] | (simp only [i64_w, i32_w]; rw [c8b0]) | skip)
   have HC9 := zA H
   clear H
   go_upto_region 3 with (fail)
   repeat (go_quiet (fail); go_upto_region 3 with (fail))
   have H := HC9.out
   clear HC9
   by_cases c10 : a0_0 = 128
   ·rw [if_pos c10] at H
    have c10b0 : (a0_0 == 128) = true := beq_iff_eq.mpr c10
    have c10b1 : (a0_0 != 128) = false := bne_eq_false_iff_eq.mpr c10
    clear c10
    have H' := zA H
    clear H
    go_wp2
    repeat (go_quiet (fail); try go_wp2)
    go_meet
    case rel => exact ⟨_, ((a0_0 == 128)), zq10, H', ⟨zq132⟩, ⟨zq182⟩, ⟨zq28⟩⟩
   ·rw [if_neg c10] at H
    have c10b0 : (a0_0 == 128) = false := beq_eq_false_iff_ne.mpr c10
    have c10b1 : (a0_0 != 128) = true := bne_iff_ne.mpr c10
    have HC11 := zA H
    clear H
    go_upto_region 4 with (fail)
    repeat (go_quiet (fail); go_upto_region 4 with (fail))
    have H := HC11.out
    clear HC11
    have H' := zA H
    clear H
    go_wp2
    repeat (go_quiet (fail); try go_wp2)
    go_meet
    case rel => exact ⟨_, ((a0_0 == 130)), zq10, H', ⟨zq132⟩, ⟨zq182⟩, ⟨zq28⟩⟩
 case rest =>
  clear HC7
  try clear c1
  try clear p2
  try clear c8
  try clear c8b0
  try clear c8b1
  try clear c9
  try clear c10
  try clear c10b0
  try clear c10b1
  try clear hcz6_0
  try clear hcz6_1
  try clear hcz6_2
  try clear hcz6_3
  try clear hfz6_0
  try clear hfz6_1
  try clear hfz6_2
  try clear hfz6_3
  obtain ⟨kq, x5_6, rfl, HA, HJ6, BK370, HB⟩ := hcut
  cases kq with
  | zero => exact absurd HA.out (by simp [spec_ValOk.j0])
  | succ kj6 =>
   have H := HA.out
   clear HA
   simp only [spec_ValOk.j0] at H
   by_cases c12 : x5_6 = true
   ·subst c12
    rw [if_pos rfl] at H
    have HC13 := zA H
    clear H
    go_upto_region 5 with (fail)
    repeat (go_quiet (fail); go_upto_region 5 with (fail))
    have H := HC13.out
    clear HC13
    by_cases c14 : a0_1 = 0
    ·rw [if_pos c14] at H
     have c14b0 : (a0_1 == 0) = true := beq_iff_eq.mpr c14
     have c14b1 : (a0_1 != 0) = false := bne_eq_false_iff_eq.mpr c14
     clear c14
     by_cases c15 : a0_2.toList = ([] : List UInt8)
     ·rw [if_pos c15] at H
      have c15b0 : (a0_2.toList == ([] : List UInt8)) = true := beq_iff_eq.mpr c15
      have c15b1 : (a0_2.toList != ([] : List UInt8)) = false := bne_eq_false_iff_eq.mpr c15
      clear c15
      obtain rfl := Option.some.inj H
      have hcz16_0 : wc.cell? ⟨gb370, 0, none⟩ = some (.int .i64 a0_0) := (blk_cell BK370.out 0).trans rfl
      have hcz16_1 : wc.cell? ⟨gb370, 1, none⟩ = some (.int .i64 a0_1) := (blk_cell BK370.out 1).trans rfl
      have hcz16_2 : wc.cell? ⟨gb370, 2, none⟩ = some (.string a0_2) := (blk_cell BK370.out 2).trans rfl
      have hcz16_3 : wc.cell? ⟨gb370, 3, none⟩ = some (.slice A0_3 l0_3.length c0_3) := (blk_cell BK370.out 3).trans rfl
      have hfz16_0 := blk_frozen BK370.out 0
      have hfz16_1 := blk_frozen BK370.out 1
      have hfz16_2 := blk_frozen BK370.out 2
      have hfz16_3 := blk_frozen BK370.out 3
      go_wp2
      repeat (go_quiet (fail); try go_wp2)
      go_ret
      exact ⟨zq2, zq28⟩
     ·rw [if_neg c15] at H
      have c15b0 : (a0_2.toList == ([] : List UInt8)) = false := beq_eq_false_iff_ne.mpr c15
      have c15b1 : (a0_2.toList != ([] : List UInt8)) = true := bne_iff_ne.mpr c15
      obtain rfl := Option.some.inj H
      have hcz17_0 : wc.cell? ⟨gb370, 0, none⟩ = some (.int .i64 a0_0) := (blk_cell BK370.out 0).trans rfl
      have hcz17_1 : wc.cell? ⟨gb370, 1, none⟩ = some (.int .i64 a0_1) := (blk_cell BK370.out 1).trans rfl
      have hcz17_2 : wc.cell? ⟨gb370, 2, none⟩ = some (.string a0_2) := (blk_cell BK370.out 2).trans rfl
      have hcz17_3 : wc.cell? ⟨gb370, 3, none⟩ = some (.slice A0_3 l0_3.length c0_3) := (blk_cell BK370.out 3).trans rfl
      have hfz17_0 := blk_frozen BK370.out 0
      have hfz17_1 := blk_frozen BK370.out 1
      have hfz17_2 := blk_frozen BK370.out 2
      have hfz17_3 := blk_frozen BK370.out 3
      go_wp2
      repeat (go_quiet (fail); try go_wp2)
      go_ret
      exact ⟨zq2, zq28⟩
    ·rw [if_neg c14] at H
     have c14b0 : (a0_1 == 0) = false := beq_eq_false_iff_ne.mpr c14
     have c14b1 : (a0_1 != 0) = true := bne_iff_ne.mpr c14
     obtain rfl := Option.some.inj H
     have hcz18_0 : wc.cell? ⟨gb370, 0, none⟩ = some (.int .i64 a0_0) := (blk_cell BK370.out 0).trans rfl
     have hcz18_1 : wc.cell? ⟨gb370, 1, none⟩ = some (.int .i64 a0_1) := (blk_cell BK370.out 1).trans rfl
     have hcz18_2 : wc.cell? ⟨gb370, 2, none⟩ = some (.string a0_2) := (blk_cell BK370.out 2).trans rfl
     have hcz18_3 : wc.cell? ⟨gb370, 3, none⟩ = some (.slice A0_3 l0_3.length c0_3) := (blk_cell BK370.out 3).trans rfl
     have hfz18_0 := blk_frozen BK370.out 0
     have hfz18_1 := blk_frozen BK370.out 1
     have hfz18_2 := blk_frozen BK370.out 2
     have hfz18_3 := blk_frozen BK370.out 3
     go_wp2
     repeat (go_quiet (fail); try go_wp2)
     go_ret
     exact ⟨zq2, zq28⟩
   ·replace c12 := Bool.eq_false_iff.mpr c12
    subst c12
    rw [if_neg zF] at H
    have HC19 := zA H
    clear H
    go_upto_region 6 with (fail)
    repeat (go_quiet (fail); go_upto_region 6 with (fail))
    have H := HC19.out
    clear HC19
    by_cases c20 : a0_0 = 2
    ·rw [if_pos c20] at H
     have c20b0 : (a0_0 == 2) = true := beq_iff_eq.mpr c20
     have c20b1 : (a0_0 != 2) = false := bne_eq_false_iff_eq.mpr c20
     clear c20
     have HC21 := zA H
     clear H
     go_upto_region 7 with (fail)
     repeat (go_quiet (fail); go_upto_region 7 with (fail))
     have H := HC21.out
     clear HC21
     obtain ⟨t371, A22, H⟩ := zB H
     try dsimp only at H
     by_cases c23 : t371 = a0_1
     ·rw [if_pos c23] at H
      have c23b0 : (t371 == a0_1) = true := beq_iff_eq.mpr c23
      have c23b1 : (t371 != a0_1) = false := bne_eq_false_iff_eq.mpr c23
      clear c23
      by_cases c24 : a0_2.toList = ([] : List UInt8)
      ·rw [if_pos c24] at H
       have c24b0 : (a0_2.toList == ([] : List UInt8)) = true := beq_iff_eq.mpr c24
       have c24b1 : (a0_2.toList != ([] : List UInt8)) = false := bne_eq_false_iff_eq.mpr c24
       clear c24
       obtain rfl := Option.some.inj H
       have hcz25_0 : wc.cell? ⟨gb370, 0, none⟩ = some (.int .i64 a0_0) := (blk_cell BK370.out 0).trans rfl
       have hcz25_1 : wc.cell? ⟨gb370, 1, none⟩ = some (.int .i64 a0_1) := (blk_cell BK370.out 1).trans rfl
       have hcz25_2 : wc.cell? ⟨gb370, 2, none⟩ = some (.string a0_2) := (blk_cell BK370.out 2).trans rfl
       have hcz25_3 : wc.cell? ⟨gb370, 3, none⟩ = some (.slice A0_3 l0_3.length c0_3) := (blk_cell BK370.out 3).trans rfl
       have hfz25_0 := blk_frozen BK370.out 0
       have hfz25_1 := blk_frozen BK370.out 1
       have hfz25_2 := blk_frozen BK370.out 2
       have hfz25_3 := blk_frozen BK370.out 3
       go_wp2_with (first | (go_at_call 174; (with_reducible refine (spec_l1Clip.calls a0_1 t371 _ A22.out).mono ?_); rintro e w' ⟨rfl, ⟨nd, rfl⟩⟩; (try first | exact ⟨rfl, _, World.drewN_drewN _ _ _⟩ | exact ⟨rfl, _, Eq.trans (World.drewN_drewN _ _ _) (congrArg (World.drewN _) (Nat.add_assoc _ _ _))⟩)))
       repeat (go_quiet (first | (go_at_call 174; (with_reducible refine (spec_l1Clip.calls a0_1 t371 _ A22.out).mono ?_); rintro e w' ⟨rfl, ⟨nd, rfl⟩⟩; (try first | exact ⟨rfl, _, World.drewN_drewN _ _ _⟩ | exact ⟨rfl, _, Eq.trans (World.drewN_drewN _ _ _) (congrArg (World.drewN _) (Nat.add_assoc _ _ _))⟩))); try go_wp2_with (first | (go_at_call 174; (with_reducible refine (spec_l1Clip.calls a0_1 t371 _ A22.out).mono ?_); rintro e w' ⟨rfl, ⟨nd, rfl⟩⟩; (try first | exact ⟨rfl, _, World.drewN_drewN _ _ _⟩ | exact ⟨rfl, _, Eq.trans (World.drewN_drewN _ _ _) (congrArg (World.drewN _) (Nat.add_assoc _ _ _))⟩))))
       go_ret
       exact ⟨zq2, zq28⟩
      ·rw [if_neg c24] at H
       have c24b0 : (a0_2.toList == ([] : List UInt8)) = false := beq_eq_false_iff_ne.mpr c24
       have c24b1 : (a0_2.toList != ([] : List UInt8)) = true := bne_iff_ne.mpr c24
       obtain rfl := Option.some.inj H
       have hcz26_0 : wc.cell? ⟨gb370, 0, none⟩ = some (.int .i64 a0_0) := (blk_cell BK370.out 0).trans rfl
       have hcz26_1 : wc.cell? ⟨gb370, 1, none⟩ = some (.int .i64 a0_1) := (blk_cell BK370.out 1).trans rfl
       have hcz26_2 : wc.cell? ⟨gb370, 2, none⟩ = some (.string a0_2) := (blk_cell BK370.out 2).trans rfl
       have hcz26_3 : wc.cell? ⟨gb370, 3, none⟩ = some (.slice A0_3 l0_3.length c0_3) := (blk_cell BK370.out 3).trans rfl
       have hfz26_0 := blk_frozen BK370.out 0
       have hfz26_1 := blk_frozen BK370.out 1
       have hfz26_2 := blk_frozen BK370.out 2
       have hfz26_3 := blk_frozen BK370.out 3
       go_wp2_with (first | (go_at_call 174; (with_reducible refine (spec_l1Clip.calls a0_1 t371 _ A22.out).mono ?_); rintro e w' ⟨rfl, ⟨nd, rfl⟩⟩; (try first | exact ⟨rfl, _, World.drewN_drewN _ _ _⟩ | exact ⟨rfl, _, Eq.trans (World.drewN_drewN _ _ _) (congrArg (World.drewN _) (Nat.add_assoc _ _ _))⟩)))
       repeat (go_quiet (first | (go_at_call 174; (with_reducible refine (spec_l1Clip.calls a0_1 t371 _ A22.out).mono ?_); rintro e w' ⟨rfl, ⟨nd, rfl⟩⟩; (try first | exact ⟨rfl, _, World.drewN_drewN _ _ _⟩ | exact ⟨rfl, _, Eq.trans (World.drewN_drewN _ _ _) (congrArg (World.drewN _) (Nat.add_assoc _ _ _))⟩))); try go_wp2_with (first | (go_at_call 174; (with_reducible refine (spec_l1Clip.calls a0_1 t371 _ A22.out).mono ?_); rintro e w' ⟨rfl, ⟨nd, rfl⟩⟩; (try first | exact ⟨rfl, _, World.drewN_drewN _ _ _⟩ | exact ⟨rfl, _, Eq.trans (World.drewN_drewN _ _ _) (congrArg (World.drewN _) (Nat.add_assoc _ _ _))⟩))))
       go_ret
       exact ⟨zq2, zq28⟩
     ·rw [if_neg c23] at H
      have c23b0 : (t371 == a0_1) = false := beq_eq_false_iff_ne.mpr c23
      have c23b1 : (t371 != a0_1) = true := bne_iff_ne.mpr c23
      obtain rfl := Option.some.inj H
      have hcz27_0 : wc.cell? ⟨gb370, 0, none⟩ = some (.int .i64 a0_0) := (blk_cell BK370.out 0).trans rfl
      have hcz27_1 : wc.cell? ⟨gb370, 1, none⟩ = some (.int .i64 a0_1) := (blk_cell BK370.out 1).trans rfl
      have hcz27_2 : wc.cell? ⟨gb370, 2, none⟩ = some (.string a0_2) := (blk_cell BK370.out 2).trans rfl
      have hcz27_3 : wc.cell? ⟨gb370, 3, none⟩ = some (.slice A0_3 l0_3.length c0_3) := (blk_cell BK370.out 3).trans rfl
      have hfz27_0 := blk_frozen BK370.out 0
      have hfz27_1 := blk_frozen BK370.out 1
      have hfz27_2 := blk_frozen BK370.out 2
      have hfz27_3 := blk_frozen BK370.out 3
      go_wp2_with (first | (go_at_call 174; (with_reducible refine (spec_l1Clip.calls a0_1 t371 _ A22.out).mono ?_); rintro e w' ⟨rfl, ⟨nd, rfl⟩⟩; (try first | exact ⟨rfl, _, World.drewN_drewN _ _ _⟩ | exact ⟨rfl, _, Eq.trans (World.drewN_drewN _ _ _) (congrArg (World.drewN _) (Nat.add_assoc _ _ _))⟩)))
      repeat (go_quiet (first | (go_at_call 174; (with_reducible refine (spec_l1Clip.calls a0_1 t371 _ A22.out).mono ?_); rintro e w' ⟨rfl, ⟨nd, rfl⟩⟩; (try first | exact ⟨rfl, _, World.drewN_drewN _ _ _⟩ | exact ⟨rfl, _, Eq.trans (World.drewN_drewN _ _ _) (congrArg (World.drewN _) (Nat.add_assoc _ _ _))⟩))); try go_wp2_with (first | (go_at_call 174; (with_reducible refine (spec_l1Clip.calls a0_1 t371 _ A22.out).mono ?_); rintro e w' ⟨rfl, ⟨nd, rfl⟩⟩; (try first | exact ⟨rfl, _, World.drewN_drewN _ _ _⟩ | exact ⟨rfl, _, Eq.trans (World.drewN_drewN _ _ _) (congrArg (World.drewN _) (Nat.add_assoc _ _ _))⟩))))
      go_ret
      exact ⟨zq2, zq28⟩
    ·rw [if_neg c20] at H
     have c20b0 : (a0_0 == 2) = false := beq_eq_false_iff_ne.mpr c20
     have c20b1 : (a0_0 != 2) = true := bne_iff_ne.mpr c20
     have HC28 := zA H
     clear H
     go_upto_region 8 with (fail)
     repeat (go_quiet (fail); go_upto_region 8 with (fail))
     have H := HC28.out
     clear HC28
     by_cases c29 : a0_0 = 4
     ·rw [if_pos c29] at H
      have c29b0 : (a0_0 == 4) = true := beq_iff_eq.mpr c29
      have c29b1 : (a0_0 != 4) = false := bne_eq_false_iff_eq.mpr c29
      clear c29
      have HC30 := zA H
      clear H
      go_upto_region 9 with (fail)
      repeat (go_quiet (fail); go_upto_region 9 with (fail))
      have H := HC30.out
      clear HC30
      by_cases c31 : (a0_2.size : Int) ≤ 20
      ·rw [if_pos c31] at H
       have c31b0 : decide ((a0_2.size : Int) ≤ 20) = true := decide_eq_true c31
       have c31b1 : decide (a0_2.size ≤ 20) = true := decide_eq_true zq144
       clear c31
       by_cases c32 : a0_1 = 0
       ·rw [if_pos c32] at H
        have c32b0 : (a0_1 == 0) = true := beq_iff_eq.mpr c32
        have c32b1 : (a0_1 != 0) = false := bne_eq_false_iff_eq.mpr c32
        clear c32
        obtain rfl := Option.some.inj H
        have hcz33_0 : wc.cell? ⟨gb370, 0, none⟩ = some (.int .i64 a0_0) := (blk_cell BK370.out 0).trans rfl
        have hcz33_1 : wc.cell? ⟨gb370, 1, none⟩ = some (.int .i64 a0_1) := (blk_cell BK370.out 1).trans rfl
        have hcz33_2 : wc.cell? ⟨gb370, 2, none⟩ = some (.string a0_2) := (blk_cell BK370.out 2).trans rfl
        have hcz33_3 : wc.cell? ⟨gb370, 3, none⟩ = some (.slice A0_3 l0_3.length c0_3) := (blk_cell BK370.out 3).trans rfl
        have hfz33_0 := blk_frozen BK370.out 0
        have hfz33_1 := blk_frozen BK370.out 1
        have hfz33_2 := blk_frozen BK370.out 2
        have hfz33_3 := blk_frozen BK370.out 3
        go_wp2
        repeat (go_quiet (fail); try go_wp2)
        go_ret
        exact ⟨zq2, zq28⟩
       ·rw [if_neg c32] at H
        have c32b0 : (a0_1 == 0) = false := beq_eq_false_iff_ne.mpr c32
        have c32b1 : (a0_1 != 0) = true := bne_iff_ne.mpr c32
        obtain rfl := Option.some.inj H
        have hcz34_0 : wc.cell? ⟨gb370, 0, none⟩ = some (.int .i64 a0_0) := (blk_cell BK370.out 0).trans rfl
        have hcz34_1 : wc.cell? ⟨gb370, 1, none⟩ = some (.int .i64 a0_1) := (blk_cell BK370.out 1).trans rfl
        have hcz34_2 : wc.cell? ⟨gb370, 2, none⟩ = some (.string a0_2) := (blk_cell BK370.out 2).trans rfl
        have hcz34_3 : wc.cell? ⟨gb370, 3, none⟩ = some (.slice A0_3 l0_3.length c0_3) := (blk_cell BK370.out 3).trans rfl
        have hfz34_0 := blk_frozen BK370.out 0
        have hfz34_1 := blk_frozen BK370.out 1
        have hfz34_2 := blk_frozen BK370.out 2
        have hfz34_3 := blk_frozen BK370.out 3
        go_wp2
        repeat (go_quiet (fail); try go_wp2)
        go_ret
        exact ⟨zq2, zq28⟩
      ·rw [if_neg c31] at H
       have c31b0 : decide ((a0_2.size : Int) ≤ 20) = false := decide_eq_false c31
       have c31b1 : decide (a0_2.size ≤ 20) = false := decide_eq_false zq144
       clear c31
       obtain rfl := Option.some.inj H
       have hcz35_0 : wc.cell? ⟨gb370, 0, none⟩ = some (.int .i64 a0_0) := (blk_cell BK370.out 0).trans rfl
       have hcz35_1 : wc.cell? ⟨gb370, 1, none⟩ = some (.int .i64 a0_1) := (blk_cell BK370.out 1).trans rfl
       have hcz35_2 : wc.cell? ⟨gb370, 2, none⟩ = some (.string a0_2) := (blk_cell BK370.out 2).trans rfl
       have hcz35_3 : wc.cell? ⟨gb370, 3, none⟩ = some (.slice A0_3 l0_3.length c0_3) := (blk_cell BK370.out 3).trans rfl
       have hfz35_0 := blk_frozen BK370.out 0
       have hfz35_1 := blk_frozen BK370.out 1
       have hfz35_2 := blk_frozen BK370.out 2
       have hfz35_3 := blk_frozen BK370.out 3
       go_wp2
       repeat (go_quiet (fail); try go_wp2)
       go_ret
       exact ⟨zq2, zq28⟩
     ·rw [if_neg c29] at H
      have c29b0 : (a0_0 == 4) = false := beq_eq_false_iff_ne.mpr c29
      have c29b1 : (a0_0 != 4) = true := bne_iff_ne.mpr c29
      have HC36 := zA H
      clear H
      go_upto_region 10 with (fail)
      repeat (go_quiet (fail); go_upto_region 10 with (fail))
      have H := HC36.out
      clear HC36
      by_cases c37 : a0_0 = 6
      ·rw [if_pos c37] at H
       have c37b0 : (a0_0 == 6) = true := beq_iff_eq.mpr c37
       have c37b1 : (a0_0 != 6) = false := bne_eq_false_iff_eq.mpr c37
       clear c37
       have HC38 := zA H
       clear H
       go_upto_region 11 with (fail)
       repeat (go_quiet (fail); go_upto_region 11 with (fail))
       have H := HC38.out
       clear HC38
       obtain ⟨t372, A39, H⟩ := zB H
       try dsimp only at H
       by_cases c40 : t372 = true
       ·subst c40
        rw [if_pos rfl] at H
        by_cases c41 : a0_1 = 0
        ·rw [if_pos c41] at H
         have c41b0 : (a0_1 == 0) = true := beq_iff_eq.mpr c41
         have c41b1 : (a0_1 != 0) = false := bne_eq_false_iff_eq.mpr c41
         clear c41
         obtain rfl := Option.some.inj H
         have hcz42_0 : wc.cell? ⟨gb370, 0, none⟩ = some (.int .i64 a0_0) := (blk_cell BK370.out 0).trans rfl
         have hcz42_1 : wc.cell? ⟨gb370, 1, none⟩ = some (.int .i64 a0_1) := (blk_cell BK370.out 1).trans rfl
         have hcz42_2 : wc.cell? ⟨gb370, 2, none⟩ = some (.string a0_2) := (blk_cell BK370.out 2).trans rfl
         have hcz42_3 : wc.cell? ⟨gb370, 3, none⟩ = some (.slice A0_3 l0_3.length c0_3) := (blk_cell BK370.out 3).trans rfl
         have hfz42_0 := blk_frozen BK370.out 0
         have hfz42_1 := blk_frozen BK370.out 1
         have hfz42_2 := blk_frozen BK370.out 2
         have hfz42_3 := blk_frozen BK370.out 3
         go_wp2_with (first | (go_at_call 175; (with_reducible refine (spec_OidOk.calls kj6 _ _ l0_3 true _ ?side1 ?side2 A39.out).mono ?_); (case side1 => repeat (first | exact (Kd.C_below HR0_3.out HB.out) | (with_reducible refine Kd.C_alloc ?_ _) | (with_reducible refine Kd.C_drewN ?_ _) | (with_reducible refine Kd.C_drew ?_))); (case side2 => exact HC0_3.out); rintro e w' ⟨rfl, ⟨nd, rfl⟩⟩; (try first | exact ⟨rfl, _, World.drewN_drewN _ _ _⟩ | exact ⟨rfl, _, Eq.trans (World.drewN_drewN _ _ _) (congrArg (World.drewN _) (Nat.add_assoc _ _ _))⟩)))
         repeat (go_quiet (first | (go_at_call 175; (with_reducible refine (spec_OidOk.calls kj6 _ _ l0_3 true _ ?side1 ?side2 A39.out).mono ?_); (case side1 => repeat (first | exact (Kd.C_below HR0_3.out HB.out) | (with_reducible refine Kd.C_alloc ?_ _) | (with_reducible refine Kd.C_drewN ?_ _) | (with_reducible refine Kd.C_drew ?_))); (case side2 => exact HC0_3.out); rintro e w' ⟨rfl, ⟨nd, rfl⟩⟩; (try first | exact ⟨rfl, _, World.drewN_drewN _ _ _⟩ | exact ⟨rfl, _, Eq.trans (World.drewN_drewN _ _ _) (congrArg (World.drewN _) (Nat.add_assoc _ _ _))⟩))); try go_wp2_with (first | (go_at_call 175; (with_reducible refine (spec_OidOk.calls kj6 _ _ l0_3 true _ ?side1 ?side2 A39.out).mono ?_); (case side1 => repeat (first | exact (Kd.C_below HR0_3.out HB.out) | (with_reducible refine Kd.C_alloc ?_ _) | (with_reducible refine Kd.C_drewN ?_ _) | (with_reducible refine Kd.C_drew ?_))); (case side2 => exact HC0_3.out); rintro e w' ⟨rfl, ⟨nd, rfl⟩⟩; (try first | exact ⟨rfl, _, World.drewN_drewN _ _ _⟩ | exact ⟨rfl, _, Eq.trans (World.drewN_drewN _ _ _) (congrArg (World.drewN _) (Nat.add_assoc _ _ _))⟩))))
         go_ret
         exact ⟨zq2, zq28⟩
        ·rw [if_neg c41] at H
         have c41b0 : (a0_1 == 0) = false := beq_eq_false_iff_ne.mpr c41
         have c41b1 : (a0_1 != 0) = true := bne_iff_ne.mpr c41
         obtain rfl := Option.some.inj H
         have hcz43_0 : wc.cell? ⟨gb370, 0, none⟩ = some (.int .i64 a0_0) := (blk_cell BK370.out 0).trans rfl
         have hcz43_1 : wc.cell? ⟨gb370, 1, none⟩ = some (.int .i64 a0_1) := (blk_cell BK370.out 1).trans rfl
         have hcz43_2 : wc.cell? ⟨gb370, 2, none⟩ = some (.string a0_2) := (blk_cell BK370.out 2).trans rfl
         have hcz43_3 : wc.cell? ⟨gb370, 3, none⟩ = some (.slice A0_3 l0_3.length c0_3) := (blk_cell BK370.out 3).trans rfl
         have hfz43_0 := blk_frozen BK370.out 0
         have hfz43_1 := blk_frozen BK370.out 1
         have hfz43_2 := blk_frozen BK370.out 2
         have hfz43_3 := blk_frozen BK370.out 3
         go_wp2_with (first | (go_at_call 175; (with_reducible refine (spec_OidOk.calls kj6 _ _ l0_3 true _ ?side1 ?side2 A39.out).mono ?_); (case side1 => repeat (first | exact (Kd.C_below HR0_3.out HB.out) | (with_reducible refine Kd.C_alloc ?_ _) | (with_reducible refine Kd.C_drewN ?_ _) | (with_reducible refine Kd.C_drew ?_))); (case side2 => exact HC0_3.out); rintro e w' ⟨rfl, ⟨nd, rfl⟩⟩; (try first | exact ⟨rfl, _, World.drewN_drewN _ _ _⟩ | exact ⟨rfl, _, Eq.trans (World.drewN_drewN _ _ _) (congrArg (World.drewN _) (Nat.add_assoc _ _ _))⟩)))
         repeat (go_quiet (first | (go_at_call 175; (with_reducible refine (spec_OidOk.calls kj6 _ _ l0_3 true _ ?side1 ?side2 A39.out).mono ?_); (case side1 => repeat (first | exact (Kd.C_below HR0_3.out HB.out) | (with_reducible refine Kd.C_alloc ?_ _) | (with_reducible refine Kd.C_drewN ?_ _) | (with_reducible refine Kd.C_drew ?_))); (case side2 => exact HC0_3.out); rintro e w' ⟨rfl, ⟨nd, rfl⟩⟩; (try first | exact ⟨rfl, _, World.drewN_drewN _ _ _⟩ | exact ⟨rfl, _, Eq.trans (World.drewN_drewN _ _ _) (congrArg (World.drewN _) (Nat.add_assoc _ _ _))⟩))); try go_wp2_with (first | (go_at_call 175; (with_reducible refine (spec_OidOk.calls kj6 _ _ l0_3 true _ ?side1 ?side2 A39.out).mono ?_); (case side1 => repeat (first | exact (Kd.C_below HR0_3.out HB.out) | (with_reducible refine Kd.C_alloc ?_ _) | (with_reducible refine Kd.C_drewN ?_ _) | (with_reducible refine Kd.C_drew ?_))); (case side2 => exact HC0_3.out); rintro e w' ⟨rfl, ⟨nd, rfl⟩⟩; (try first | exact ⟨rfl, _, World.drewN_drewN _ _ _⟩ | exact ⟨rfl, _, Eq.trans (World.drewN_drewN _ _ _) (congrArg (World.drewN _) (Nat.add_assoc _ _ _))⟩))))
         go_ret
         exact ⟨zq2, zq28⟩
       ·replace c40 := Bool.eq_false_iff.mpr c40
        subst c40
        rw [if_neg zF] at H
        obtain rfl := Option.some.inj H
        have hcz44_0 : wc.cell? ⟨gb370, 0, none⟩ = some (.int .i64 a0_0) := (blk_cell BK370.out 0).trans rfl
        have hcz44_1 : wc.cell? ⟨gb370, 1, none⟩ = some (.int .i64 a0_1) := (blk_cell BK370.out 1).trans rfl
        have hcz44_2 : wc.cell? ⟨gb370, 2, none⟩ = some (.string a0_2) := (blk_cell BK370.out 2).trans rfl
        have hcz44_3 : wc.cell? ⟨gb370, 3, none⟩ = some (.slice A0_3 l0_3.length c0_3) := (blk_cell BK370.out 3).trans rfl
        have hfz44_0 := blk_frozen BK370.out 0
        have hfz44_1 := blk_frozen BK370.out 1
        have hfz44_2 := blk_frozen BK370.out 2
        have hfz44_3 := blk_frozen BK370.out 3
        go_wp2_with (first | (go_at_call 175; (with_reducible refine (spec_OidOk.calls kj6 _ _ l0_3 false _ ?side1 ?side2 A39.out).mono ?_); (case side1 => repeat (first | exact (Kd.C_below HR0_3.out HB.out) | (with_reducible refine Kd.C_alloc ?_ _) | (with_reducible refine Kd.C_drewN ?_ _) | (with_reducible refine Kd.C_drew ?_))); (case side2 => exact HC0_3.out); rintro e w' ⟨rfl, ⟨nd, rfl⟩⟩; (try first | exact ⟨rfl, _, World.drewN_drewN _ _ _⟩ | exact ⟨rfl, _, Eq.trans (World.drewN_drewN _ _ _) (congrArg (World.drewN _) (Nat.add_assoc _ _ _))⟩)))
        repeat (go_quiet (first | (go_at_call 175; (with_reducible refine (spec_OidOk.calls kj6 _ _ l0_3 false _ ?side1 ?side2 A39.out).mono ?_); (case side1 => repeat (first | exact (Kd.C_below HR0_3.out HB.out) | (with_reducible refine Kd.C_alloc ?_ _) | (with_reducible refine Kd.C_drewN ?_ _) | (with_reducible refine Kd.C_drew ?_))); (case side2 => exact HC0_3.out); rintro e w' ⟨rfl, ⟨nd, rfl⟩⟩; (try first | exact ⟨rfl, _, World.drewN_drewN _ _ _⟩ | exact ⟨rfl, _, Eq.trans (World.drewN_drewN _ _ _) (congrArg (World.drewN _) (Nat.add_assoc _ _ _))⟩))); try go_wp2_with (first | (go_at_call 175; (with_reducible refine (spec_OidOk.calls kj6 _ _ l0_3 false _ ?side1 ?side2 A39.out).mono ?_); (case side1 => repeat (first | exact (Kd.C_below HR0_3.out HB.out) | (with_reducible refine Kd.C_alloc ?_ _) | (with_reducible refine Kd.C_drewN ?_ _) | (with_reducible refine Kd.C_drew ?_))); (case side2 => exact HC0_3.out); rintro e w' ⟨rfl, ⟨nd, rfl⟩⟩; (try first | exact ⟨rfl, _, World.drewN_drewN _ _ _⟩ | exact ⟨rfl, _, Eq.trans (World.drewN_drewN _ _ _) (congrArg (World.drewN _) (Nat.add_assoc _ _ _))⟩))))
        go_ret
        exact ⟨zq2, zq28⟩
      ·rw [if_neg c37] at H
       have c37b0 : (a0_0 == 6) = false := beq_eq_false_iff_ne.mpr c37
       have c37b1 : (a0_0 != 6) = true := bne_iff_ne.mpr c37
       have HC45 := zA H
       clear H
       go_upto_region 12 with (fail)
       repeat (go_quiet (fail); go_upto_region 12 with (fail))
       have H := HC45.out
       clear HC45
       obtain rfl := Option.some.inj H
       go_wp2
       repeat (go_quiet (fail); try go_wp2)
       go_ret
       exact ⟨zq2, zq28⟩

/-! ### spec_PutTlv: function 126 -/
def spec_PutTlv.j0 : Nat → Int → List Int → List Int → Bool → Option (List Int)
 | 0, _, _, _, _ => none
 | k + 1, x1, x2, x7, x18 => if x18 = true then (some x7) else (if x7.length < 140737488355328 then ((some (x7 ++ [(x1) % 256] : List Int)).bind fun y380 => (if (x2.length : Int) > 127 then (if y380.length < 140737488355328 then ((some (y380 ++ [129] : List Int)).bind fun y383 => (if y383.length < 140737488355328 then ((some (y383 ++ [((x2.length : Int)) % 256] : List Int)).bind fun y386 => (if y386.length + x2.length < 140737488355328 then (some (y386 ++ x2)) else (none))) else (none))) else (none)) else (if y380.length < 140737488355328 then ((some (y380 ++ [((x2.length : Int)) % 256] : List Int)).bind fun y392 => (if y392.length + x2.length < 140737488355328 then (some (y392 ++ x2)) else (none))) else (none)))) else (none))
def spec_PutTlv.f (k : Nat) (l0 : List Int) (a1 : Int) (l2 : List Int) : Option (List Int) := (some (([] : List Int) : List Int)).bind fun y373 => (if y373.length + l0.length < 140737488355328 then ((some (y373 ++ l0 : List Int)).bind fun y376 => ((spec_l1In.f a1 0 255).bind fun t379 => (if t379 = true then (spec_PutTlv.j0 k a1 l2 y376 (decide ((l2.length : Int) > 250))) else (spec_PutTlv.j0 k a1 l2 y376 true)))) else (none))
theorem spec_PutTlv.mono_l : ∀ k, (∀ y0 y1 y2 y3, LeO (spec_PutTlv.j0 k y0 y1 y2 y3) (spec_PutTlv.j0 (k + 1) y0 y1 y2 y3))
 | 0 => fun _ _ _ _ r h => by simp [spec_PutTlv.j0] at h
 | k + 1 => by
  have ih0 := spec_PutTlv.mono_l k
  ·intro y0 y1 y2 y3
   unfold spec_PutTlv.j0
   exact zR
theorem spec_PutTlv.mono : ∀ a0 a1 a2 k, LeO (spec_PutTlv.f k a0 a1 a2) (spec_PutTlv.f (k + 1) a0 a1 a2) := by
 intro a0 a1 a2 k
 have ih0 := spec_PutTlv.mono_l k
 unfold spec_PutTlv.f
 exact zR
set_option maxHeartbeats 8000000 in
set_option maxRecDepth 100000 in
theorem spec_PutTlv.calls (k : Nat) (A0 : Option Addr) (c0 : Nat) (l0 : List Int) (a1 : Int) (A2 : Option Addr) (c2 : Nat) (l2 : List Int) (r : List Int) (w : World) (hr0 : Kd.C (Kd.int .u8) w A0 l0.length l0) (hc0 : l0.length ≤ c0) (hr2 : Kd.C (Kd.int .u8) w A2 l2.length l2) (hc2 : l2.length ≤ c2) (h : spec_PutTlv.f k l0 a1 l2 = some r) :
  Calls Try.prog 126 #[.slice A0 l0.length c0, .int .i64 a1, .slice A2 l2.length c2] w fun e w' => ∃ v0_ : Value, e = .returned (v0_) ∧ Kd.R (Kd.int .u8) 5 w' w.heap.size (fun _ => True) v0_ r ∧ Below w.heap.size w w' := by
 have HR0 := zA hr0
 have HC0 := zA hc0
 clear hr0 hc0
 have HR2 := zA hr2
 have HC2 := zA hc2
 clear hr2 hc2
 have HB := zA (Below.refl w.heap.size w)
 unfold spec_PutTlv.f at h
 have H := h
 clear h
 have HC4 := zA H
 clear H
 go_enter Try.func126, Try.ntmps126
 go_upto_region 0 with (fail)
 have H := HC4.out
 clear HC4
 have HC5 := zA H
 clear H
 go_upto_region 1 with (fail)
 have H := HC5.out
 clear HC5
 obtain ⟨y373, Ny373, H⟩ := zS (([] : List Int)) H
 obtain ⟨c6, H⟩ := zN H
 have LMc6 := zA c6
 clear c6
 obtain ⟨y376, Ny376, H⟩ := zS (y373 ++ l0) H
 have HC7 := zA H
 clear H
 go_upto_region 2 with (first | ((with_reducible refine gate_dst (N := 8) rfl ?_); (try (refine gate_guard zq84 ?_; dsimp only)); refine Kd.R_lit (Kd.int .u8) _ 5 ?hg (N := 8) ?hd (xs := ([] : List Int)) (inner := []) (ok := fun _ => True) (okp := fun _ => True) ?hr ?hp (fun _ hk => hk) trivial (Below.refl _ _) (Nat.le_refl _) zq134 ?_; (case hd => rfl); (case hg => rfl); (case hr => first | (go_simp; done) | (go_simp; rfl)); (case hp => exact (Reps.none _ _)); intro v374 w8 ho9 hb hg_ hnew_; clear hg_ hnew_; (first | rw [← Ny373.out] at ho9 | (simp only [Int.reduceToNat] at ho9; rw [← Ny373.out] at ho9)); have HO375 := zA (Kd.R_lower ho9 (below_size zq0)); replace HB := zA (below_step zq0 hb); clear hb ho9) | ((with_reducible refine gate_builtin (b := .append) (xs := #[.tmp 8, .tmp 9]) rfl ?_); (try (refine gate_guard zq84 ?_; dsimp only)); at_builtin; refine Kd.R_append_rows (Kd.int .u8) (w0 := w) w.heap.size rfl (.tmp 8) (.tmp 9) 22 5 (.int .u8 0) 1 rfl Try.underlying22 info5 rfl zq39 zq144 v374 y373 l0 _ _ _ (fun _ => True) (fun _ => False) rfl rfl ?aO ?aR (fun _ _ h => h) (fun _ h => h.elim) ?aF ?aB ?aS ?aL ?_; (case aR => repeat (first | exact (Kd.C_below HR0.out HB.out) | (with_reducible refine Kd.C_alloc ?_ _) | (with_reducible refine Kd.C_drewN ?_ _) | (with_reducible refine Kd.C_drew ?_))); (case aB => exact zq0); (case aF => exact (fun _ _ => trivial)); (case aO => exact (by (with_reducible repeat (first | apply Kd.R_alloc | apply Kd.R_drewN | apply Kd.R_drew)); exact HO375.out)); (case aS => exact (below_size zq0)); (case aL => have := LMc6.out; omega); intro v377 w10 ho hb hg hat; rw [← Ny376.out] at ho; replace HB := zA (hb); have HO378 := zA (ho); clear HO375; clear ho hb hg hat))
 (try simp only [Act.put, List.setIfInBounds_toArray, List.set_cons_zero, List.set_cons_succ])
 have H := HC7.out
 clear HC7
 have HC11 := zA H
 clear H
 go_upto_region 2 with (fail)
 go_cut [18] (fun v18 wc => ∃ (kq : Nat) (x18_10 : Bool), v18 = .bool x18_10 ∧ Aside0 (spec_PutTlv.j0 kq a1 l2 y376 x18_10 = some r) ∧ Aside0 (kq ≤ k) ∧ Aside0 (Kd.R (Kd.int .u8) 5 wc w.heap.size (fun _ => True) v377 y376) ∧ Aside0 (Below w.heap.size w wc))
 case first =>
  have H := HC11.out
  clear HC11
  obtain ⟨t379, A12, H⟩ := zB H
  try dsimp only at H
  by_cases c13 : t379 = true
  ·subst c13
   rw [if_pos rfl] at H
   have H' := zA H
   clear H
   go_wp2_with (first | ((with_reducible refine gate_callee (f := 150) rfl ?_); refine goesL_ (some 12) rfl rfl Try.func150 (by kernel_rfl) rfl #[.int .i64 a1, .int .i64 0, .int .i64 255] rfl zq1 ?_; (with_reducible refine (spec_l1In.calls a1 0 255 true _ A12.out).mono ?_); rintro e w' ⟨rfl, ⟨nd, rfl⟩⟩; refine ⟨_, rfl, ?_⟩))
   go_meet
   case rel => exact ⟨_, (decide ((l2.length : Int) > 250)), zq10, H', ⟨zq132⟩, ⟨zq207⟩, ⟨zq0⟩⟩
  ·replace c13 := Bool.eq_false_iff.mpr c13
   subst c13
   rw [if_neg zF] at H
   have H' := zA H
   clear H
   go_wp2_with (first | ((with_reducible refine gate_callee (f := 150) rfl ?_); refine goesL_ (some 12) rfl rfl Try.func150 (by kernel_rfl) rfl #[.int .i64 a1, .int .i64 0, .int .i64 255] rfl zq1 ?_; (with_reducible refine (spec_l1In.calls a1 0 255 false _ A12.out).mono ?_); rintro e w' ⟨rfl, ⟨nd, rfl⟩⟩; refine ⟨_, rfl, ?_⟩))
   go_meet
   case rel => exact ⟨_, (true), zq10, H', ⟨zq132⟩, ⟨zq207⟩, ⟨zq0⟩⟩
 case rest =>
  clear HC11
  try clear c1
  try clear c2
  try clear p2
  try clear c6
  try clear c12
  try clear c13
  obtain ⟨kq, x18_10, rfl, HA, HJ10, HO_7, HB⟩ := hcut
  cases kq with
  | zero => exact absurd HA.out (by simp [spec_PutTlv.j0])
  | succ kj10 =>
   have H := HA.out
   clear HA
   simp only [spec_PutTlv.j0] at H
   by_cases c14 : x18_10 = true
   ·subst c14
    rw [if_pos rfl] at H
    have HC15 := zA H
    clear H
    go_upto_region 3 with (fail)
    have H := HC15.out
    clear HC15
    obtain rfl := Option.some.inj H
    go_wp2
    go_ret
    exact ⟨_, zq2, zq217, zq0⟩
   ·replace c14 := Bool.eq_false_iff.mpr c14
    subst c14
    rw [if_neg zF] at H
    have HC16 := zA H
    clear H
    go_upto_region 4 with (fail)
    have H := HC16.out
    clear HC16
    obtain ⟨c17, H⟩ := zN H
    have LMc17 := zA c17
    clear c17
    obtain ⟨y380, Ny380, H⟩ := zS (y376 ++ [(a1) % 256]) H
    have HC18 := zA H
    clear H
    go_upto_region 5 with (first | ((with_reducible refine gate_builtin (b := .append) (xs := #[.tmp 20, .tmp 23]) rfl ?_); (try (refine gate_guard zq84 ?_; dsimp only)); at_builtin; refine Kd.R_append (Kd.int .u8) (w0 := w) w.heap.size rfl (.tmp 20) (.tmp 23) 22 5 (.int .u8 0) 1 rfl Try.underlying22 info5 rfl zq39 zq144 v377 y376 ((a1) % 256) [.int .u8 ((a1) % 256)] (fun _ => True) (fun _ => False) rfl rfl ?aP (fun _ hk => hk.elim) ?aF ?aO ?aB ?aS ?aL ?_; (case aP => exact rfl); (case aB => exact zq0); (case aF => exact (fun _ _ => trivial)); (case aO => exact zq217); (case aS => exact (below_size zq0)); (case aL => have := LMc17.out; omega); intro v381 w19 ho hb hg hat; rw [← Ny380.out] at ho; replace HB := zA (hb); have HO382 := zA (ho); clear HO_7; clear ho hb hg hat))
    (try simp only [Act.put, List.setIfInBounds_toArray, List.set_cons_zero, List.set_cons_succ])
    have H := HC18.out
    clear HC18
    by_cases c20 : (l2.length : Int) > 127
    ·rw [if_pos c20] at H
     have c20b0 : decide (127 < (l2.length : Int)) = true := decide_eq_true c20
     have c20b1 : decide (127 < l2.length) = true := decide_eq_true zq144
     clear c20
     have HC21 := zA H
     clear H
     go_upto_region 6 with (fail)
     have H := HC21.out
     clear HC21
     obtain ⟨c22, H⟩ := zN H
     have LMc22 := zA c22
     clear c22
     obtain ⟨y383, Ny383, H⟩ := zS (y380 ++ [129]) H
     have HC23 := zA H
     clear H
     go_upto_region 7 with (first | ((with_reducible refine gate_builtin (b := .append) (xs := #[.tmp 28, .tmp 29]) rfl ?_); (try (refine gate_guard zq84 ?_; dsimp only)); at_builtin; refine Kd.R_append (Kd.int .u8) (w0 := w) w.heap.size rfl (.tmp 28) (.tmp 29) 22 5 (.int .u8 0) 1 rfl Try.underlying22 info5 rfl zq39 zq144 v381 y380 129 [.int .u8 129] (fun _ => True) (fun _ => False) rfl rfl ?aP (fun _ hk => hk.elim) ?aF ?aO ?aB ?aS ?aL ?_; (case aP => exact rfl); (case aB => exact zq0); (case aF => exact (fun _ _ => trivial)); (case aO => exact zq208); (case aS => exact (below_size zq0)); (case aL => have := LMc22.out; omega); intro v384 w24 ho hb hg hat; rw [← Ny383.out] at ho; replace HB := zA (hb); have HO385 := zA (ho); clear HO382; clear ho hb hg hat))
     (try simp only [Act.put, List.setIfInBounds_toArray, List.set_cons_zero, List.set_cons_succ])
     have H := HC23.out
     clear HC23
     obtain ⟨c25, H⟩ := zN H
     have LMc25 := zA c25
     clear c25
     obtain ⟨y386, Ny386, H⟩ := zS (y383 ++ [((l2.length : Int)) % 256]) H
     obtain ⟨c26, H⟩ := zN H
     have LMc26 := zA c26
     clear c26
     obtain ⟨y389, hy389⟩ : ∃ y_ : List Int, y_ = (y386 ++ l2) := ⟨_, rfl⟩
     rw [← hy389] at H
     have Ny389 := zA hy389
     clear hy389
     obtain rfl := Option.some.inj H
     go_wp2_with (first | ((with_reducible refine gate_builtin (b := .append) (xs := #[.tmp 31, .tmp 35]) rfl ?_); (try (refine gate_guard zq84 ?_; dsimp only)); at_builtin; refine Kd.R_append (Kd.int .u8) (w0 := w) w.heap.size rfl (.tmp 31) (.tmp 35) 22 5 (.int .u8 0) 1 rfl Try.underlying22 info5 rfl zq39 zq144 v384 y383 (((l2.length : Int)) % 256) [.int .u8 (((l2.length : Int)) % 256)] (fun _ => True) (fun _ => False) rfl rfl ?aP (fun _ hk => hk.elim) ?aF ?aO ?aB ?aS ?aL ?_; (case aP => exact rfl); (case aB => exact zq0); (case aF => exact (fun _ _ => trivial)); (case aO => exact (by (with_reducible repeat (first | apply Kd.R_alloc | apply Kd.R_drewN | apply Kd.R_drew)); exact HO385.out)); (case aS => exact (below_size zq0)); (case aL => have := LMc25.out; omega); intro v387 w27 ho hb hg hat; rw [← Ny386.out] at ho; replace HB := zA (hb); have HO388 := zA (ho); clear HO385; clear ho hb hg hat) | ((with_reducible refine gate_builtin (b := .append) (xs := #[.tmp 36, .tmp 37]) rfl ?_); (try (refine gate_guard zq84 ?_; dsimp only)); at_builtin; refine Kd.R_append_rows (Kd.int .u8) (w0 := w) w.heap.size rfl (.tmp 36) (.tmp 37) 22 5 (.int .u8 0) 1 rfl Try.underlying22 info5 rfl zq39 zq144 v387 y386 l2 _ _ _ (fun _ => True) (fun _ => False) rfl rfl ?aO ?aR (fun _ _ h => h) (fun _ h => h.elim) ?aF ?aB ?aS ?aL ?_; (case aR => repeat (first | exact (Kd.C_below HR2.out HB.out) | (with_reducible refine Kd.C_alloc ?_ _) | (with_reducible refine Kd.C_drewN ?_ _) | (with_reducible refine Kd.C_drew ?_))); (case aB => exact zq0); (case aF => exact (fun _ _ => trivial)); (case aO => exact (by (with_reducible repeat (first | apply Kd.R_alloc | apply Kd.R_drewN | apply Kd.R_drew)); exact HO388.out)); (case aS => exact (below_size zq0)); (case aL => have := LMc26.out; omega); intro v390 w28 ho hb hg hat; rw [← Ny389.out] at ho; replace HB := zA (hb); have HO391 := zA (ho); clear HO388; clear ho hb hg hat))
     go_ret
     exact ⟨_, zq2, (by (with_reducible repeat (first | apply Kd.R_alloc | apply Kd.R_drewN | apply Kd.R_drew)); exact HO391.out), zq0⟩
    ·rw [if_neg c20] at H
     have c20b0 : decide (127 < (l2.length : Int)) = false := decide_eq_false c20
     have c20b1 : decide (127 < l2.length) = false := decide_eq_false zq144
     clear c20
     have HC29 := zA H
     clear H
     go_upto_region 7 with (fail)
     have H := HC29.out
     clear HC29
     obtain ⟨c30, H⟩ := zN H
     have LMc30 := zA c30
     clear c30
     obtain ⟨y392, Ny392, H⟩ := zS (y380 ++ [((l2.length : Int)) % 256]) H
     obtain ⟨c31, H⟩ := zN H
     have LMc31 := zA c31
     clear c31
     obtain ⟨y395, hy395⟩ : ∃ y_ : List Int, y_ = (y392 ++ l2) := ⟨_, rfl⟩
     rw [← hy395] at H
     have Ny395 := zA hy395
     clear hy395
     obtain rfl := Option.some.inj H
     go_wp2_with (first | ((with_reducible refine gate_builtin (b := .append) (xs := #[.tmp 31, .tmp 35]) rfl ?_); (try (refine gate_guard zq84 ?_; dsimp only)); at_builtin; refine Kd.R_append (Kd.int .u8) (w0 := w) w.heap.size rfl (.tmp 31) (.tmp 35) 22 5 (.int .u8 0) 1 rfl Try.underlying22 info5 rfl zq39 zq144 v381 y380 (((l2.length : Int)) % 256) [.int .u8 (((l2.length : Int)) % 256)] (fun _ => True) (fun _ => False) rfl rfl ?aP (fun _ hk => hk.elim) ?aF ?aO ?aB ?aS ?aL ?_; (case aP => exact rfl); (case aB => exact zq0); (case aF => exact (fun _ _ => trivial)); (case aO => exact zq208); (case aS => exact (below_size zq0)); (case aL => have := LMc30.out; omega); intro v393 w32 ho hb hg hat; rw [← Ny392.out] at ho; replace HB := zA (hb); have HO394 := zA (ho); clear HO382; clear ho hb hg hat) | ((with_reducible refine gate_builtin (b := .append) (xs := #[.tmp 36, .tmp 37]) rfl ?_); (try (refine gate_guard zq84 ?_; dsimp only)); at_builtin; refine Kd.R_append_rows (Kd.int .u8) (w0 := w) w.heap.size rfl (.tmp 36) (.tmp 37) 22 5 (.int .u8 0) 1 rfl Try.underlying22 info5 rfl zq39 zq144 v393 y392 l2 _ _ _ (fun _ => True) (fun _ => False) rfl rfl ?aO ?aR (fun _ _ h => h) (fun _ h => h.elim) ?aF ?aB ?aS ?aL ?_; (case aR => repeat (first | exact (Kd.C_below HR2.out HB.out) | (with_reducible refine Kd.C_alloc ?_ _) | (with_reducible refine Kd.C_drewN ?_ _) | (with_reducible refine Kd.C_drew ?_))); (case aB => exact zq0); (case aF => exact (fun _ _ => trivial)); (case aO => exact (by (with_reducible repeat (first | apply Kd.R_alloc | apply Kd.R_drewN | apply Kd.R_drew)); exact HO394.out)); (case aS => exact (below_size zq0)); (case aL => have := LMc31.out; omega); intro v396 w33 ho hb hg hat; rw [← Ny395.out] at ho; replace HB := zA (hb); have HO397 := zA (ho); clear HO394; clear ho hb hg hat))
     go_ret
     exact ⟨_, zq2, (by (with_reducible repeat (first | apply Kd.R_alloc | apply Kd.R_drewN | apply Kd.R_drew)); exact HO397.out), zq0⟩

/-! ### spec_PutInt: function 152 -/
def spec_PutInt.l0 : Nat → Int → List Int → Option (List Int)
 | 0, _, _ => none
 | k + 1, x0, x3 => if x0 < (-128) then ((some (([(x0 / 256) % 256] : List Int) : List Int)).bind fun y402 => (if y402.length + x3.length < 140737488355328 then (spec_PutInt.l0 k (x0 / 256) (y402 ++ x3)) else (none))) else (if x0 > 127 then ((some (([(x0 / 256) % 256] : List Int) : List Int)).bind fun y408 => (if y408.length + x3.length < 140737488355328 then (spec_PutInt.l0 k (x0 / 256) (y408 ++ x3)) else (none))) else (some x3))
def spec_PutInt.f (k : Nat) (a0 : Int) : Option (List Int) := (spec_l1Clip.f a0).bind fun t398 => (spec_PutInt.l0 k t398 (([(t398) % 256] : List Int)))
theorem spec_PutInt.mono_l : ∀ k, (∀ y0 y1, LeO (spec_PutInt.l0 k y0 y1) (spec_PutInt.l0 (k + 1) y0 y1))
 | 0 => fun _ _ r h => by simp [spec_PutInt.l0] at h
 | k + 1 => by
  have ih0 := spec_PutInt.mono_l k
  ·intro y0 y1
   unfold spec_PutInt.l0
   exact zR
theorem spec_PutInt.mono : ∀ a0 k, LeO (spec_PutInt.f k a0) (spec_PutInt.f (k + 1) a0) := by
 intro a0 k
 have ih0 := spec_PutInt.mono_l k
 unfold spec_PutInt.f
 exact zR
set_option maxHeartbeats 8000000 in
set_option maxRecDepth 100000 in
theorem spec_PutInt.calls (k : Nat) (a0 : Int) (r : List Int) (w : World) (h : spec_PutInt.f k a0 = some r) :
  Calls Try.prog 152 #[.int .i64 a0] w fun e w' => ∃ v0_ : Value, e = .returned (v0_) ∧ Kd.R (Kd.int .u8) 5 w' w.heap.size (fun _ => True) v0_ r ∧ Below w.heap.size w w' := by
 have HB := zA (Below.refl w.heap.size w)
 unfold spec_PutInt.f at h
 have H := h
 clear h
 have HC2 := zA H
 clear H
 go_enter Try.func152, Try.ntmps152
 go_upto_region 0 with (fail)
 have H := HC2.out
 clear HC2
 have HC3 := zA H
 clear H
 go_upto_region 1 with (fail)
 have H := HC3.out
 clear HC3
 obtain ⟨t398, A4, H⟩ := zB H
 try dsimp only at H
 have HC5 := zA H
 clear H
 go_upto_region 2 with (first | ((with_reducible refine gate_callee (f := 174) rfl ?_); refine goesL_ (some 5) rfl rfl Try.func174 (by kernel_rfl) rfl #[.int .i64 a0] rfl zq1 ?_; (with_reducible refine (spec_l1Clip.calls a0 t398 _ A4.out).mono ?_); rintro e w' ⟨rfl, ⟨nd, rfl⟩⟩; refine ⟨_, rfl, ?_⟩))
 (try simp only [Act.put, List.setIfInBounds_toArray, List.set_cons_zero, List.set_cons_succ])
 have H := HC5.out
 clear HC5
 obtain ⟨y399, hy399⟩ : ∃ y_ : List Int, y_ = (([(t398) % 256] : List Int)) := ⟨_, rfl⟩
 rw [← hy399] at H
 have Ny399 := zA hy399
 clear hy399
 have H' := zA H
 clear H
 go_wp2_with (first | ((with_reducible refine gate_dst (N := 8) rfl ?_); refine Kd.R_lit (Kd.int .u8) _ 5 ?hg (N := 8) ?hd (xs := ([(t398) % 256] : List Int)) (inner := [.int .u8 ((t398) % 256)]) (ok := fun _ => True) (okp := fun _ => True) ?hr ?hp (fun _ hk => hk) trivial (Below.refl _ _) (Nat.le_refl _) zq134 ?_; (case hd => rfl); (case hg => rfl); (case hr => first | (go_simp; done) | (go_simp; rfl)); (case hp => exact (Reps.one (show Kd.M (Kd.int .u8) _ _ _ ((t398) % 256) [.int .u8 ((t398) % 256)] from rfl) (Reps.none _ _))); intro v400 w6 ho7 hb hg_ hnew_; clear hg_ hnew_; (first | rw [← Ny399.out] at ho7 | (simp only [Int.reduceToNat] at ho7; rw [← Ny399.out] at ho7)); have HO401 := zA (Kd.R_lower ho7 (below_size zq0)); replace HB := zA (below_step zq0 hb); clear hb ho7))
 go_loopg [0, 3] k (fun kq v0 v3 w' => ∃ (x0_1 : Int) (x3_1 : List Int), v0 = .int .i64 x0_1 ∧ Aside0 (spec_PutInt.l0 kq x0_1 x3_1 = some r) ∧ Aside0 (kq ≤ k) ∧ Aside0 (Kd.R (Kd.int .u8) 5 w' w.heap.size (fun _ => True) v3 x3_1) ∧ Aside0 (Below w.heap.size w w'))
 case atStart => exact ⟨(t398), (y399), zq10, H', ⟨Nat.le_refl _⟩, ⟨(by (with_reducible repeat (first | apply Kd.R_alloc | apply Kd.R_drewN | apply Kd.R_drew)); exact HO401.out)⟩, ⟨zq0⟩⟩
 case round =>
  clear H'
  try clear c1
  try clear p2
  obtain ⟨x0_1, x3_1, rfl, HA, HK1, HO_3, HB⟩ := hrel
  cases gk with
  | zero => exact absurd HA.out (by simp [spec_PutInt.l0])
  | succ k1 =>
   have H := HA.out
   clear HA
   simp only [spec_PutInt.l0] at H
   have HC8 := zA H
   clear H
   go_upto_region 3 with (fail)
   have H := HC8.out
   clear HC8
   by_cases c9 : x0_1 < (-128)
   ·rw [if_pos c9] at H
    have c9b0 : decide (x0_1 < (-128)) = true := decide_eq_true c9
    clear c9
    have HC10 := zA H
    clear H
    go_upto_region 4 with (fail)
    have H := HC10.out
    clear HC10
    have HC11 := zA H
    clear H
    go_upto_region 5 with (fail)
    have H := HC11.out
    clear HC11
    obtain ⟨y402, Ny402, H⟩ := zS (([(x0_1 / 256) % 256] : List Int)) H
    obtain ⟨c12, H⟩ := zN H
    have LMc12 := zA c12
    clear c12
    obtain ⟨y405, hy405⟩ : ∃ y_ : List Int, y_ = (y402 ++ x3_1) := ⟨_, rfl⟩
    rw [← hy405] at H
    have Ny405 := zA hy405
    clear hy405
    have H' := zA H
    clear H
    go_wp2_with (first | ((with_reducible refine gate_dst (N := 19) rfl ?_); refine Kd.R_lit (Kd.int .u8) _ 5 ?hg (N := 19) ?hd (xs := ([(x0_1 / 256) % 256] : List Int)) (inner := [.int .u8 ((x0_1 / 256) % 256)]) (ok := fun _ => True) (okp := fun _ => True) ?hr ?hp (fun _ hk => hk) trivial (Below.refl _ _) (Nat.le_refl _) zq134 ?_; (case hd => rfl); (case hg => rfl); (case hr => first | (go_simp; done) | (go_simp; rfl)); (case hp => exact (Reps.one (show Kd.M (Kd.int .u8) _ _ _ ((x0_1 / 256) % 256) [.int .u8 ((x0_1 / 256) % 256)] from rfl) (Reps.none _ _))); intro v403 w13 ho14 hb hg_ hnew_; clear hg_ hnew_; (first | rw [← Ny402.out] at ho14 | (simp only [Int.reduceToNat] at ho14; rw [← Ny402.out] at ho14)); have HO404 := zA (Kd.R_lower (Kd.R_new' ho14 (Kd.R_lt zq14)) (below_size zq0)); replace HO_3 := zA (Kd.R_elder' zq14 (Kd.R_base ho14) hb); replace HB := zA (below_step zq0 hb); clear hb ho14; obtain ⟨Ao16, co16, eo16⟩ := Kd.R_slice HO_3.out; subst eo16) | ((with_reducible refine gate_builtin (b := .append) (xs := #[.tmp 19, .tmp 20]) rfl ?_); at_builtin; refine Kd.R_append_rows (Kd.int .u8) (w0 := w) w.heap.size rfl (.tmp 19) (.tmp 20) 22 5 (.int .u8 0) 1 rfl Try.underlying22 info5 rfl zq39 zq144 v403 y402 x3_1 _ _ _ (fun k_ => some k_ ≠ (.slice Ao16 x3_1.length co16 : Value).ownBlock) (fun _ => False) rfl rfl ?aO ?aR (fun _ _ h => h) (fun _ h => h.elim) ?aF ?aB ?aS ?aL ?_; (case aR => repeat (first | exact (Kd.R_reads' HO_3.out).2.2 | (with_reducible refine Kd.C_alloc ?_ _) | (with_reducible refine Kd.C_drewN ?_ _) | (with_reducible refine Kd.C_drew ?_))); (case aB => exact zq0); (case aF => exact (fun k_ hk => Kd.fresh' (Kd.R_lt zq14) k_ hk)); (case aO => exact (by (with_reducible repeat (first | apply Kd.R_alloc | apply Kd.R_drewN | apply Kd.R_drew)); exact Kd.R_mono HO404.out (fun _ hk => hk.2))); (case aS => exact (below_size zq0)); (case aL => have := LMc12.out; omega); intro v406 w15 ho hb hg hat; rw [← Ny405.out] at ho; replace HO_3 := zA (Kd.R_after (ok := (fun _ => True)) zq14 hg hat); replace HB := zA (hb); have HO407 := zA (ho); clear HO404; clear ho hb hg hat))
    go_roundg k1
    case measure => have := HK1.out; omega
    case rel => exact ⟨(x0_1 / 256), (y405), zq10, H', ⟨zq148⟩, ⟨(by (with_reducible repeat (first | apply Kd.R_alloc | apply Kd.R_drewN | apply Kd.R_drew)); exact Kd.R_mono HO407.out (fun _ hk => trivial))⟩, ⟨zq0⟩⟩
   ·rw [if_neg c9] at H
    have c9b0 : decide (x0_1 < (-128)) = false := decide_eq_false c9
    clear c9
    by_cases c17 : x0_1 > 127
    ·rw [if_pos c17] at H
     have c17b0 : decide (127 < x0_1) = true := decide_eq_true c17
     clear c17
     have HC18 := zA H
     clear H
     go_upto_region 4 with (fail)
     have H := HC18.out
     clear HC18
     have HC19 := zA H
     clear H
     go_upto_region 5 with (fail)
     have H := HC19.out
     clear HC19
     obtain ⟨y408, Ny408, H⟩ := zS (([(x0_1 / 256) % 256] : List Int)) H
     obtain ⟨c20, H⟩ := zN H
     have LMc20 := zA c20
     clear c20
     obtain ⟨y411, hy411⟩ : ∃ y_ : List Int, y_ = (y408 ++ x3_1) := ⟨_, rfl⟩
     rw [← hy411] at H
     have Ny411 := zA hy411
     clear hy411
     have H' := zA H
     clear H
     go_wp2_with (first | ((with_reducible refine gate_dst (N := 19) rfl ?_); refine Kd.R_lit (Kd.int .u8) _ 5 ?hg (N := 19) ?hd (xs := ([(x0_1 / 256) % 256] : List Int)) (inner := [.int .u8 ((x0_1 / 256) % 256)]) (ok := fun _ => True) (okp := fun _ => True) ?hr ?hp (fun _ hk => hk) trivial (Below.refl _ _) (Nat.le_refl _) zq134 ?_; (case hd => rfl); (case hg => rfl); (case hr => first | (go_simp; done) | (go_simp; rfl)); (case hp => exact (Reps.one (show Kd.M (Kd.int .u8) _ _ _ ((x0_1 / 256) % 256) [.int .u8 ((x0_1 / 256) % 256)] from rfl) (Reps.none _ _))); intro v409 w21 ho22 hb hg_ hnew_; clear hg_ hnew_; (first | rw [← Ny408.out] at ho22 | (simp only [Int.reduceToNat] at ho22; rw [← Ny408.out] at ho22)); have HO410 := zA (Kd.R_lower (Kd.R_new' ho22 (Kd.R_lt zq14)) (below_size zq0)); replace HO_3 := zA (Kd.R_elder' zq14 (Kd.R_base ho22) hb); replace HB := zA (below_step zq0 hb); clear hb ho22; obtain ⟨Ao24, co24, eo24⟩ := Kd.R_slice HO_3.out; subst eo24) | ((with_reducible refine gate_builtin (b := .append) (xs := #[.tmp 19, .tmp 20]) rfl ?_); at_builtin; refine Kd.R_append_rows (Kd.int .u8) (w0 := w) w.heap.size rfl (.tmp 19) (.tmp 20) 22 5 (.int .u8 0) 1 rfl Try.underlying22 info5 rfl zq39 zq144 v409 y408 x3_1 _ _ _ (fun k_ => some k_ ≠ (.slice Ao24 x3_1.length co24 : Value).ownBlock) (fun _ => False) rfl rfl ?aO ?aR (fun _ _ h => h) (fun _ h => h.elim) ?aF ?aB ?aS ?aL ?_; (case aR => repeat (first | exact (Kd.R_reads' HO_3.out).2.2 | (with_reducible refine Kd.C_alloc ?_ _) | (with_reducible refine Kd.C_drewN ?_ _) | (with_reducible refine Kd.C_drew ?_))); (case aB => exact zq0); (case aF => exact (fun k_ hk => Kd.fresh' (Kd.R_lt zq14) k_ hk)); (case aO => exact (by (with_reducible repeat (first | apply Kd.R_alloc | apply Kd.R_drewN | apply Kd.R_drew)); exact Kd.R_mono HO410.out (fun _ hk => hk.2))); (case aS => exact (below_size zq0)); (case aL => have := LMc20.out; omega); intro v412 w23 ho hb hg hat; rw [← Ny411.out] at ho; replace HO_3 := zA (Kd.R_after (ok := (fun _ => True)) zq14 hg hat); replace HB := zA (hb); have HO413 := zA (ho); clear HO410; clear ho hb hg hat))
     go_roundg k1
     case measure => have := HK1.out; omega
     case rel => exact ⟨(x0_1 / 256), (y411), zq10, H', ⟨zq148⟩, ⟨(by (with_reducible repeat (first | apply Kd.R_alloc | apply Kd.R_drewN | apply Kd.R_drew)); exact Kd.R_mono HO413.out (fun _ hk => trivial))⟩, ⟨zq0⟩⟩
    ·rw [if_neg c17] at H
     have c17b0 : decide (127 < x0_1) = false := decide_eq_false c17
     clear c17
     have HC25 := zA H
     clear H
     go_upto_region 6 with (fail)
     have H := HC25.out
     clear HC25
     obtain rfl := Option.some.inj H
     go_wp2
     go_ret
     exact ⟨_, zq2, zq14, zq0⟩

end Go.Proofs.Ytkcgghgkmgbphaa.PFnVals
