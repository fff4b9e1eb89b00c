-- WRITTEN BY a turned copy of the kit's printer (wip/patch_print.py), for this claim
import Derived.Test.YtkcgghgkmgbphaaPFnValsx0
import Derived.Test.YtkcgghgkmgbphaaPFnValsx1
namespace Go.Proofs.Ytkcgghgkmgbphaa.PFnVals
open Go.RowKit Go.Proofs.YtkcgghgkmgbphaaW.PrintWords Go.Proofs.YtkcgghgkmgbphaaW.PrintLast Go.Proofs.YtkcgghgkmgbphaaW.PrintMore
attribute [local go_sem] max2_int min2_int max_two min_two max_three min_three max_four min_four   -- for this text's walks alone
set_option linter.unusedVariables false
set_option linter.unusedSimpArgs false

attribute [local go_sem] cell_setCell_m
/-! ### impl_ValOk: function 90 -/
def impl_ValOk.f (k : Nat) (a0_0 : Int) (a0_1 : Int) (a0_2 : ByteArray) (l0_3 : List Int) : Option (Bool) := if a0_0 = 2 then ((impl_isInt.f a0_1).bind fun t114 => (if t114 = true then ((impl_SameVal.f k a0_0 a0_1 a0_2 l0_3 a0_0 a0_1 (⟨#[]⟩ : ByteArray) ([] : List Int)).bind fun t115 => (some t115)) else (some false))) else (if a0_0 = 4 then (if (a0_2.size : Int) ≤ 20 then ((impl_SameVal.f k a0_0 a0_1 a0_2 l0_3 a0_0 0 a0_2 ([] : List Int)).bind fun t116 => (some t116)) else (some false)) else (if a0_0 = 6 then ((impl_OidOk.f k l0_3).bind fun t117 => (if t117 = true then ((impl_SameVal.f k a0_0 a0_1 a0_2 l0_3 a0_0 0 (⟨#[]⟩ : ByteArray) l0_3).bind fun t118 => (some t118)) else (some false))) else (if a0_0 = 5 then ((impl_SameVal.f k a0_0 a0_1 a0_2 l0_3 a0_0 0 (⟨#[]⟩ : ByteArray) ([] : List Int)).bind fun t119 => (some t119)) else (if a0_0 = 128 then ((impl_SameVal.f k a0_0 a0_1 a0_2 l0_3 a0_0 0 (⟨#[]⟩ : ByteArray) ([] : List Int)).bind fun t120 => (some t120)) else (if a0_0 = 130 then ((impl_SameVal.f k a0_0 a0_1 a0_2 l0_3 a0_0 0 (⟨#[]⟩ : ByteArray) ([] : List Int)).bind fun t121 => (some t121)) else (some false))))))
theorem impl_ValOk.mono : ∀ a0 a1 a2 a3 k, LeO (impl_ValOk.f k a0 a1 a2 a3) (impl_ValOk.f (k + 1) a0 a1 a2 a3) := by
 intro a0 a1 a2 a3 k
 unfold impl_ValOk.f
 have m0_ := @impl_OidOk.mono
 have m1_ := @impl_SameVal.mono
 exact zR
set_option maxHeartbeats 8000000 in
set_option maxRecDepth 100000 in
theorem impl_ValOk.calls (k : Nat) (a0_0 : Int) (a0_1 : Int) (a0_2 : ByteArray) (A0_3 : Option Addr) (c0_3 : Nat) (l0_3 : List Int) (r : Bool) (w : World) (hr0_3 : Kd.C (Kd.int .i64) w A0_3 l0_3.length l0_3) (hc0_3 : l0_3.length ≤ c0_3) (h : impl_ValOk.f k a0_0 a0_1 a0_2 l0_3 = some r) :
  Calls Try.prog 90 #[.agg #[.int .i64 a0_0, .int .i64 a0_1, .string a0_2, .slice A0_3 l0_3.length c0_3]] w fun e w' => e = .returned (.bool r) ∧ Below w.heap.size w w' := by
 have hu76 := Try.underlying76
 have HR0_3 := zA hr0_3
 have HC0_3 := zA hc0_3
 clear hr0_3 hc0_3
 have HB := zA (Below.refl w.heap.size w)
 unfold impl_ValOk.f at h
 have H := h
 clear h
 have HC2 := zA H
 clear H
 go_enter Try.func90, Try.ntmps90
 go_upto_region 0 with (fail)
 have H := HC2.out
 clear HC2
 have HC3 := zA H
 clear H
 go_upto_region 1 with (first | ((with_reducible refine gate_dst (N := 1) rfl ?_); refine box_event ?hg (N := 1) ?hd (cs := #[.int .i64 a0_0, .int .i64 a0_1, .string a0_2, .slice A0_3 l0_3.length c0_3]) (t := 76) ?hr ?_; (case hd => rfl); (case hg => rfl); (case hr => first | (go_simp; done) | (go_simp; rfl)); intro gb112 hg w4 hbox hb; have BK112 := zA (hbox); have GW112 := zA ((zq11 : w.heap.size ≤ gb112)); have GE112 := zA ((zq11 : w.heap.size ≤ gb112)); replace HB := zA (below_step zq0 hb); clear hb hbox hg))
 (try simp only [Act.put, List.setIfInBounds_toArray, List.set_cons_zero, List.set_cons_succ])
 have H := HC3.out
 clear HC3
 have HC5 := zA H
 clear H
 have hcz6_0 : w4.cell? ⟨gb112, 0, none⟩ = some (.int .i64 a0_0) := (blk_cell BK112.out 0).trans rfl
 have hcz6_1 : w4.cell? ⟨gb112, 1, none⟩ = some (.int .i64 a0_1) := (blk_cell BK112.out 1).trans rfl
 have hcz6_2 : w4.cell? ⟨gb112, 2, none⟩ = some (.string a0_2) := (blk_cell BK112.out 2).trans rfl
 have hcz6_3 : w4.cell? ⟨gb112, 3, none⟩ = some (.slice A0_3 l0_3.length c0_3) := (blk_cell BK112.out 3).trans rfl
 have hfz6_0 := blk_frozen BK112.out 0
 have hfz6_1 := blk_frozen BK112.out 1
 have hfz6_2 := blk_frozen BK112.out 2
 have hfz6_3 := blk_frozen BK112.out 3
 go_upto_region 2 with (first | ((with_reducible refine gate_dst (N := 3) rfl ?_); refine box_event ?hg (N := 3) ?hd (cs := #[.int .i64 0, .int .i64 0, .string (⟨#[]⟩ : ByteArray), .slice none 0 0]) (t := 76) ?hr ?_; (case hd => rfl); (case hg => rfl); (case hr => first | (go_simp; done) | (go_simp; rfl)); intro gb113 hg w7 hbox hb; have BK113 := zA (hbox); have GW113 := zA ((zq192 : w.heap.size ≤ gb113)); have GE113 := zA ((zq192 : w.heap.size ≤ gb113)); replace HB := zA (below_step zq157 hb); have NB112_113 := zA ((by rw [hg]; exact Nat.ne_of_lt (blk_lt (g := gb112) (o := .cells #[.int .i64 a0_0, .int .i64 a0_1, .string a0_2, .slice A0_3 l0_3.length c0_3] 76 (0, 0)) zq181) : gb112 ≠ gb113)); have NB113_112 := zA ((by rw [hg]; exact Nat.ne_of_gt (blk_lt (g := gb112) (o := .cells #[.int .i64 a0_0, .int .i64 a0_1, .string a0_2, .slice A0_3 l0_3.length c0_3] 76 (0, 0)) zq181) : gb113 ≠ gb112)); replace BK112 := zA (blk_below (g := gb112) (o := .cells #[.int .i64 a0_0, .int .i64 a0_1, .string a0_2, .slice A0_3 l0_3.length c0_3] 76 (0, 0)) zq181 hb); clear hb hbox hg; have hnb8 := NB113_112.out; have hnc8 := NB112_113.out; have hcz9_0 : w7.cell? ⟨gb113, 0, none⟩ = some (.int .i64 0) := (blk_cell BK113.out 0).trans rfl; have hcz9_1 : w7.cell? ⟨gb113, 1, none⟩ = some (.int .i64 0) := (blk_cell BK113.out 1).trans rfl; have hcz9_2 : w7.cell? ⟨gb113, 2, none⟩ = some (.string (⟨#[]⟩ : ByteArray)) := (blk_cell BK113.out 2).trans rfl; have hcz9_3 : w7.cell? ⟨gb113, 3, none⟩ = some (.slice none 0 0) := (blk_cell BK113.out 3).trans rfl; have hfz9_0 := blk_frozen BK113.out 0; have hfz9_1 := blk_frozen BK113.out 1; have hfz9_2 := blk_frozen BK113.out 2; have hfz9_3 := blk_frozen BK113.out 3))
 (try simp only [Act.put, List.setIfInBounds_toArray, List.set_cons_zero, List.set_cons_succ])
 have H := HC5.out
 clear HC5
 have HC10 := zA H
 clear H
 go_upto_region 3 with (fail)
 have H := HC10.out
 clear HC10
 have HC11 := zA H
 clear H
 have hnb12 := NB112_113.out
 have hnc12 := NB113_112.out
 have hcz13_0 : w7.cell? ⟨gb112, 0, none⟩ = some (.int .i64 a0_0) := (blk_cell BK112.out 0).trans rfl
 have hcz13_1 : w7.cell? ⟨gb112, 1, none⟩ = some (.int .i64 a0_1) := (blk_cell BK112.out 1).trans rfl
 have hcz13_2 : w7.cell? ⟨gb112, 2, none⟩ = some (.string a0_2) := (blk_cell BK112.out 2).trans rfl
 have hcz13_3 : w7.cell? ⟨gb112, 3, none⟩ = some (.slice A0_3 l0_3.length c0_3) := (blk_cell BK112.out 3).trans rfl
 have hfz13_0 := blk_frozen BK112.out 0
 have hfz13_1 := blk_frozen BK112.out 1
 have hfz13_2 := blk_frozen BK112.out 2
 have hfz13_3 := blk_frozen BK112.out 3
 go_upto_region 5 with (fail)
 have H := HC11.out
 clear HC11
 by_cases c14 : a0_0 = 2
 ·rw [if_pos c14] at H
  have c14b0 : (a0_0 == 2) = true := beq_iff_eq.mpr c14
  have c14b1 : (a0_0 != 2) = false := bne_eq_false_iff_eq.mpr c14
  clear c14
  have HC15 := zA H
  clear H
  go_upto_region 6 with (fail)
  have H := HC15.out
  clear HC15
  have HC16 := zA H
  clear H
  have hnb17 := NB112_113.out
  have hnc17 := NB113_112.out
  have hcz18_0 : w7.cell? ⟨gb112, 0, none⟩ = some (.int .i64 a0_0) := (blk_cell BK112.out 0).trans rfl
  have hcz18_1 : w7.cell? ⟨gb112, 1, none⟩ = some (.int .i64 a0_1) := (blk_cell BK112.out 1).trans rfl
  have hcz18_2 : w7.cell? ⟨gb112, 2, none⟩ = some (.string a0_2) := (blk_cell BK112.out 2).trans rfl
  have hcz18_3 : w7.cell? ⟨gb112, 3, none⟩ = some (.slice A0_3 l0_3.length c0_3) := (blk_cell BK112.out 3).trans rfl
  have hfz18_0 := blk_frozen BK112.out 0
  have hfz18_1 := blk_frozen BK112.out 1
  have hfz18_2 := blk_frozen BK112.out 2
  have hfz18_3 := blk_frozen BK112.out 3
  have hcz19_0 : w7.cell? ⟨gb113, 0, none⟩ = some (.int .i64 0) := (blk_cell BK113.out 0).trans rfl
  have hcz19_1 : w7.cell? ⟨gb113, 1, none⟩ = some (.int .i64 0) := (blk_cell BK113.out 1).trans rfl
  have hcz19_2 : w7.cell? ⟨gb113, 2, none⟩ = some (.string (⟨#[]⟩ : ByteArray)) := (blk_cell BK113.out 2).trans rfl
  have hcz19_3 : w7.cell? ⟨gb113, 3, none⟩ = some (.slice none 0 0) := (blk_cell BK113.out 3).trans rfl
  have hfz19_0 := blk_frozen BK113.out 0
  have hfz19_1 := blk_frozen BK113.out 1
  have hfz19_2 := blk_frozen BK113.out 2
  have hfz19_3 := blk_frozen BK113.out 3
  go_upto_region 7 with (fail)
  have H := HC16.out
  clear HC16
  obtain ⟨t114, A20, H⟩ := zB H
  try dsimp only at H
  have HC21 := zA H
  clear H
  have hnb22 := NB112_113.out
  have hnc22 := NB113_112.out
  have hcz23_0 : w7.cell? ⟨gb112, 0, none⟩ = some (.int .i64 a0_0) := (blk_cell BK112.out 0).trans rfl
  have hcz23_1 : w7.cell? ⟨gb112, 1, none⟩ = some (.int .i64 a0_1) := (blk_cell BK112.out 1).trans rfl
  have hcz23_2 : w7.cell? ⟨gb112, 2, none⟩ = some (.string a0_2) := (blk_cell BK112.out 2).trans rfl
  have hcz23_3 : w7.cell? ⟨gb112, 3, none⟩ = some (.slice A0_3 l0_3.length c0_3) := (blk_cell BK112.out 3).trans rfl
  have hfz23_0 := blk_frozen BK112.out 0
  have hfz23_1 := blk_frozen BK112.out 1
  have hfz23_2 := blk_frozen BK112.out 2
  have hfz23_3 := blk_frozen BK112.out 3
  go_upto_region 17 with (first | ((with_reducible refine gate_callee (f := 124) rfl ?_); refine goesL_ (some 17) rfl rfl Try.func124 (by kernel_rfl) rfl #[.int .i64 a0_1] rfl zq1 ?_; (with_reducible refine (impl_isInt.calls a0_1 t114 _ A20.out).mono ?_); rintro e w' ⟨rfl, ⟨nd, rfl⟩⟩; refine ⟨_, rfl, ?_⟩))
  (try simp only [Act.put, List.setIfInBounds_toArray, List.set_cons_zero, List.set_cons_succ])
  have H := HC21.out
  clear HC21
  by_cases c24 : t114 = true
  ·subst c24
   rw [if_pos rfl] at H
   obtain ⟨t115, A25, H⟩ := zB H
   try dsimp only at H
   obtain rfl := Option.some.inj H
   have hnb26 := NB112_113.out
   have hnc26 := NB113_112.out
   have hcz27_0 : w7.cell? ⟨gb112, 0, none⟩ = some (.int .i64 a0_0) := (blk_cell BK112.out 0).trans rfl
   have hcz27_1 : w7.cell? ⟨gb112, 1, none⟩ = some (.int .i64 a0_1) := (blk_cell BK112.out 1).trans rfl
   have hcz27_2 : w7.cell? ⟨gb112, 2, none⟩ = some (.string a0_2) := (blk_cell BK112.out 2).trans rfl
   have hcz27_3 : w7.cell? ⟨gb112, 3, none⟩ = some (.slice A0_3 l0_3.length c0_3) := (blk_cell BK112.out 3).trans rfl
   have hfz27_0 := blk_frozen BK112.out 0
   have hfz27_1 := blk_frozen BK112.out 1
   have hfz27_2 := blk_frozen BK112.out 2
   have hfz27_3 := blk_frozen BK112.out 3
   have hcz28_0 : w7.cell? ⟨gb113, 0, none⟩ = some (.int .i64 0) := (blk_cell BK113.out 0).trans rfl
   have hcz28_1 : w7.cell? ⟨gb113, 1, none⟩ = some (.int .i64 0) := (blk_cell BK113.out 1).trans rfl
   have hcz28_2 : w7.cell? ⟨gb113, 2, none⟩ = some (.string (⟨#[]⟩ : ByteArray)) := (blk_cell BK113.out 2).trans rfl
   have hcz28_3 : w7.cell? ⟨gb113, 3, none⟩ = some (.slice none 0 0) := (blk_cell BK113.out 3).trans rfl
   have hfz28_0 := blk_frozen BK113.out 0
   have hfz28_1 := blk_frozen BK113.out 1
   have hfz28_2 := blk_frozen BK113.out 2
   have hfz28_3 := blk_frozen BK113.out 3
   go_wp2_with (first | (go_at_call 93; (refine (impl_SameVal.calls k a0_0 a0_1 a0_2 _ _ l0_3 a0_0 a0_1 (⟨#[]⟩ : ByteArray) _ _ ([] : List Int) t115 _ ?side1 ?side2 ?side3 ?side4 A25.out).mono ?_); (case side1 => exact Kd.C_below HR0_3.out zq9); (case side2 => exact HC0_3.out); (case side3 => exact Kd.C_nil _ _); (case side4 => exact Nat.le_refl _); rintro e w29 ⟨rfl, hb⟩; replace BK112 := zA (blk_below (g := gb112) (o := .cells #[.int .i64 a0_0, .int .i64 a0_1, .string a0_2, .slice A0_3 l0_3.length c0_3] 76 (0, 0)) zq40 hb); replace BK113 := zA (blk_below (g := gb113) (o := .cells #[.int .i64 a0_0, .int .i64 a0_1, .string (⟨#[]⟩ : ByteArray), .slice none 0 0] 76 (0, 0)) (by (with_reducible repeat (first | refine blk_drewN ?_ _ | refine blk_drew ?_ | refine blk_alloc ?_ _)); refine blk_put (cs := #[.int .i64 a0_0, .int .i64 0, .string (⟨#[]⟩ : ByteArray), .slice none 0 0]) ?_ 1 _ rfl; (with_reducible repeat (first | refine blk_drewN ?_ _ | refine blk_drew ?_ | refine blk_alloc ?_ _)); refine blk_put (cs := #[.int .i64 a0_0, .int .i64 0, .string (⟨#[]⟩ : ByteArray), .slice none 0 0]) ?_ 3 _ rfl; (with_reducible repeat (first | refine blk_drewN ?_ _ | refine blk_drew ?_ | refine blk_alloc ?_ _)); refine blk_put (cs := #[.int .i64 a0_0, .int .i64 0, .string (⟨#[]⟩ : ByteArray), .slice none 0 0]) ?_ 2 _ rfl; (with_reducible repeat (first | refine blk_drewN ?_ _ | refine blk_drew ?_ | refine blk_alloc ?_ _)); refine blk_put (cs := #[.int .i64 a0_0, .int .i64 0, .string (⟨#[]⟩ : ByteArray), .slice none 0 0]) ?_ 1 _ rfl; (with_reducible repeat (first | refine blk_drewN ?_ _ | refine blk_drew ?_ | refine blk_alloc ?_ _)); refine blk_put (cs := #[.int .i64 0, .int .i64 0, .string (⟨#[]⟩ : ByteArray), .slice none 0 0]) ?_ 0 _ rfl; (with_reducible repeat (first | refine blk_drewN ?_ _ | refine blk_drew ?_ | refine blk_alloc ?_ _)); exact BK113.out) hb); replace HB := zA (below_step zq9 hb); clear hb))
   go_ret
   exact ⟨zq2, zq9⟩
  ·replace c24 := Bool.eq_false_iff.mpr c24
   subst c24
   rw [if_neg zF] at H
   obtain rfl := Option.some.inj H
   go_wp2
   go_ret
   exact ⟨zq2, zq9⟩
 ·rw [if_neg c14] at H
  have c14b0 : (a0_0 == 2) = false := beq_eq_false_iff_ne.mpr c14
  have c14b1 : (a0_0 != 2) = true := bne_iff_ne.mpr c14
  have HC30 := zA H
  clear H
  go_upto_region 8 with (fail)
  have H := HC30.out
  clear HC30
  by_cases c31 : a0_0 = 4
  ·rw [if_pos c31] at H
   have c31b0 : (a0_0 == 4) = true := beq_iff_eq.mpr c31
   have c31b1 : (a0_0 != 4) = false := bne_eq_false_iff_eq.mpr c31
   clear c31
   have HC32 := zA H
   clear H
   go_upto_region 9 with (fail)
   have H := HC32.out
   clear HC32
   have HC33 := zA H
   clear H
   have hnb34 := NB112_113.out
   have hnc34 := NB113_112.out
   have hcz35_0 : w7.cell? ⟨gb112, 0, none⟩ = some (.int .i64 a0_0) := (blk_cell BK112.out 0).trans rfl
   have hcz35_1 : w7.cell? ⟨gb112, 1, none⟩ = some (.int .i64 a0_1) := (blk_cell BK112.out 1).trans rfl
   have hcz35_2 : w7.cell? ⟨gb112, 2, none⟩ = some (.string a0_2) := (blk_cell BK112.out 2).trans rfl
   have hcz35_3 : w7.cell? ⟨gb112, 3, none⟩ = some (.slice A0_3 l0_3.length c0_3) := (blk_cell BK112.out 3).trans rfl
   have hfz35_0 := blk_frozen BK112.out 0
   have hfz35_1 := blk_frozen BK112.out 1
   have hfz35_2 := blk_frozen BK112.out 2
   have hfz35_3 := blk_frozen BK112.out 3
   have hcz36_0 : w7.cell? ⟨gb113, 0, none⟩ = some (.int .i64 0) := (blk_cell BK113.out 0).trans rfl
   have hcz36_1 : w7.cell? ⟨gb113, 1, none⟩ = some (.int .i64 0) := (blk_cell BK113.out 1).trans rfl
   have hcz36_2 : w7.cell? ⟨gb113, 2, none⟩ = some (.string (⟨#[]⟩ : ByteArray)) := (blk_cell BK113.out 2).trans rfl
   have hcz36_3 : w7.cell? ⟨gb113, 3, none⟩ = some (.slice none 0 0) := (blk_cell BK113.out 3).trans rfl
   have hfz36_0 := blk_frozen BK113.out 0
   have hfz36_1 := blk_frozen BK113.out 1
   have hfz36_2 := blk_frozen BK113.out 2
   have hfz36_3 := blk_frozen BK113.out 3
   go_upto_region 10 with (fail)
   have H := HC33.out
   clear HC33
   have HC37 := zA H
   clear H
   have hnb38 := NB112_113.out
   have hnc38 := NB113_112.out
   have hcz39_0 : w7.cell? ⟨gb112, 0, none⟩ = some (.int .i64 a0_0) := (blk_cell BK112.out 0).trans rfl
   have hcz39_1 : w7.cell? ⟨gb112, 1, none⟩ = some (.int .i64 a0_1) := (blk_cell BK112.out 1).trans rfl
   have hcz39_2 : w7.cell? ⟨gb112, 2, none⟩ = some (.string a0_2) := (blk_cell BK112.out 2).trans rfl
   have hcz39_3 : w7.cell? ⟨gb112, 3, none⟩ = some (.slice A0_3 l0_3.length c0_3) := (blk_cell BK112.out 3).trans rfl
   have hfz39_0 := blk_frozen BK112.out 0
   have hfz39_1 := blk_frozen BK112.out 1
   have hfz39_2 := blk_frozen BK112.out 2
   have hfz39_3 := blk_frozen BK112.out 3
   go_upto_region 17 with (fail)
   have H := HC37.out
   clear HC37
   by_cases c40 : (a0_2.size : Int) ≤ 20
   ·rw [if_pos c40] at H
    have c40b0 : decide ((a0_2.size : Int) ≤ 20) = true := decide_eq_true c40
    have c40b1 : decide (a0_2.size ≤ 20) = true := decide_eq_true zq144
    clear c40
    obtain ⟨t116, A41, H⟩ := zB H
    try dsimp only at H
    obtain rfl := Option.some.inj H
    have hnb42 := NB112_113.out
    have hnc42 := NB113_112.out
    have hcz43_0 : w7.cell? ⟨gb112, 0, none⟩ = some (.int .i64 a0_0) := (blk_cell BK112.out 0).trans rfl
    have hcz43_1 : w7.cell? ⟨gb112, 1, none⟩ = some (.int .i64 a0_1) := (blk_cell BK112.out 1).trans rfl
    have hcz43_2 : w7.cell? ⟨gb112, 2, none⟩ = some (.string a0_2) := (blk_cell BK112.out 2).trans rfl
    have hcz43_3 : w7.cell? ⟨gb112, 3, none⟩ = some (.slice A0_3 l0_3.length c0_3) := (blk_cell BK112.out 3).trans rfl
    have hfz43_0 := blk_frozen BK112.out 0
    have hfz43_1 := blk_frozen BK112.out 1
    have hfz43_2 := blk_frozen BK112.out 2
    have hfz43_3 := blk_frozen BK112.out 3
    have hcz44_0 : w7.cell? ⟨gb113, 0, none⟩ = some (.int .i64 0) := (blk_cell BK113.out 0).trans rfl
    have hcz44_1 : w7.cell? ⟨gb113, 1, none⟩ = some (.int .i64 0) := (blk_cell BK113.out 1).trans rfl
    have hcz44_2 : w7.cell? ⟨gb113, 2, none⟩ = some (.string (⟨#[]⟩ : ByteArray)) := (blk_cell BK113.out 2).trans rfl
    have hcz44_3 : w7.cell? ⟨gb113, 3, none⟩ = some (.slice none 0 0) := (blk_cell BK113.out 3).trans rfl
    have hfz44_0 := blk_frozen BK113.out 0
    have hfz44_1 := blk_frozen BK113.out 1
    have hfz44_2 := blk_frozen BK113.out 2
    have hfz44_3 := blk_frozen BK113.out 3
    go_wp2_with (first | (go_at_call 93; (refine (impl_SameVal.calls k a0_0 a0_1 a0_2 _ _ l0_3 a0_0 0 a0_2 _ _ ([] : List Int) t116 _ ?side1 ?side2 ?side3 ?side4 A41.out).mono ?_); (case side1 => exact Kd.C_below HR0_3.out zq9); (case side2 => exact HC0_3.out); (case side3 => exact Kd.C_nil _ _); (case side4 => exact Nat.le_refl _); rintro e w45 ⟨rfl, hb⟩; replace BK112 := zA (blk_below (g := gb112) (o := .cells #[.int .i64 a0_0, .int .i64 a0_1, .string a0_2, .slice A0_3 l0_3.length c0_3] 76 (0, 0)) zq40 hb); replace BK113 := zA (blk_below (g := gb113) (o := .cells #[.int .i64 a0_0, .int .i64 0, .string a0_2, .slice none 0 0] 76 (0, 0)) (by (with_reducible repeat (first | refine blk_drewN ?_ _ | refine blk_drew ?_ | refine blk_alloc ?_ _)); refine blk_put (cs := #[.int .i64 a0_0, .int .i64 0, .string (⟨#[]⟩ : ByteArray), .slice none 0 0]) ?_ 2 _ rfl; (with_reducible repeat (first | refine blk_drewN ?_ _ | refine blk_drew ?_ | refine blk_alloc ?_ _)); refine blk_put (cs := #[.int .i64 a0_0, .int .i64 0, .string (⟨#[]⟩ : ByteArray), .slice none 0 0]) ?_ 3 _ rfl; (with_reducible repeat (first | refine blk_drewN ?_ _ | refine blk_drew ?_ | refine blk_alloc ?_ _)); refine blk_put (cs := #[.int .i64 a0_0, .int .i64 0, .string (⟨#[]⟩ : ByteArray), .slice none 0 0]) ?_ 2 _ rfl; (with_reducible repeat (first | refine blk_drewN ?_ _ | refine blk_drew ?_ | refine blk_alloc ?_ _)); refine blk_put (cs := #[.int .i64 a0_0, .int .i64 0, .string (⟨#[]⟩ : ByteArray), .slice none 0 0]) ?_ 1 _ rfl; (with_reducible repeat (first | refine blk_drewN ?_ _ | refine blk_drew ?_ | refine blk_alloc ?_ _)); refine blk_put (cs := #[.int .i64 0, .int .i64 0, .string (⟨#[]⟩ : ByteArray), .slice none 0 0]) ?_ 0 _ rfl; (with_reducible repeat (first | refine blk_drewN ?_ _ | refine blk_drew ?_ | refine blk_alloc ?_ _)); exact BK113.out) hb); replace HB := zA (below_step zq9 hb); clear hb))
    go_ret
    exact ⟨zq2, zq9⟩
   ·rw [if_neg c40] at H
    have c40b0 : decide ((a0_2.size : Int) ≤ 20) = false := decide_eq_false c40
    have c40b1 : decide (a0_2.size ≤ 20) = false := decide_eq_false zq144
    clear c40
    obtain rfl := Option.some.inj H
    go_wp2
    go_ret
    exact ⟨zq2, zq9⟩
  ·rw [if_neg c31] at H
   have c31b0 : (a0_0 == 4) = false := beq_eq_false_iff_ne.mpr c31
   have c31b1 : (a0_0 != 4) = true := bne_iff_ne.mpr c31
   have HC46 := zA H
   clear H
   go_upto_region 11 with (fail)
   have H := HC46.out
   clear HC46
   by_cases c47 : a0_0 = 6
   ·rw [if_pos c47] at H
    have c47b0 : (a0_0 == 6) = true := beq_iff_eq.mpr c47
    have c47b1 : (a0_0 != 6) = false := bne_eq_false_iff_eq.mpr c47
    clear c47
    have HC48 := zA H
    clear H
    go_upto_region 12 with (fail)
    have H := HC48.out
    clear HC48
    have HC49 := zA H
    clear H
    have hnb50 := NB112_113.out
    have hnc50 := NB113_112.out
    have hcz51_0 : w7.cell? ⟨gb112, 0, none⟩ = some (.int .i64 a0_0) := (blk_cell BK112.out 0).trans rfl
    have hcz51_1 : w7.cell? ⟨gb112, 1, none⟩ = some (.int .i64 a0_1) := (blk_cell BK112.out 1).trans rfl
    have hcz51_2 : w7.cell? ⟨gb112, 2, none⟩ = some (.string a0_2) := (blk_cell BK112.out 2).trans rfl
    have hcz51_3 : w7.cell? ⟨gb112, 3, none⟩ = some (.slice A0_3 l0_3.length c0_3) := (blk_cell BK112.out 3).trans rfl
    have hfz51_0 := blk_frozen BK112.out 0
    have hfz51_1 := blk_frozen BK112.out 1
    have hfz51_2 := blk_frozen BK112.out 2
    have hfz51_3 := blk_frozen BK112.out 3
    have hcz52_0 : w7.cell? ⟨gb113, 0, none⟩ = some (.int .i64 0) := (blk_cell BK113.out 0).trans rfl
    have hcz52_1 : w7.cell? ⟨gb113, 1, none⟩ = some (.int .i64 0) := (blk_cell BK113.out 1).trans rfl
    have hcz52_2 : w7.cell? ⟨gb113, 2, none⟩ = some (.string (⟨#[]⟩ : ByteArray)) := (blk_cell BK113.out 2).trans rfl
    have hcz52_3 : w7.cell? ⟨gb113, 3, none⟩ = some (.slice none 0 0) := (blk_cell BK113.out 3).trans rfl
    have hfz52_0 := blk_frozen BK113.out 0
    have hfz52_1 := blk_frozen BK113.out 1
    have hfz52_2 := blk_frozen BK113.out 2
    have hfz52_3 := blk_frozen BK113.out 3
    go_upto_region 13 with (fail)
    have H := HC49.out
    clear HC49
    obtain ⟨t117, A53, H⟩ := zB H
    try dsimp only at H
    have HC54 := zA H
    clear H
    have hnb55 := NB112_113.out
    have hnc55 := NB113_112.out
    have hcz56_0 : w7.cell? ⟨gb112, 0, none⟩ = some (.int .i64 a0_0) := (blk_cell BK112.out 0).trans rfl
    have hcz56_1 : w7.cell? ⟨gb112, 1, none⟩ = some (.int .i64 a0_1) := (blk_cell BK112.out 1).trans rfl
    have hcz56_2 : w7.cell? ⟨gb112, 2, none⟩ = some (.string a0_2) := (blk_cell BK112.out 2).trans rfl
    have hcz56_3 : w7.cell? ⟨gb112, 3, none⟩ = some (.slice A0_3 l0_3.length c0_3) := (blk_cell BK112.out 3).trans rfl
    have hfz56_0 := blk_frozen BK112.out 0
    have hfz56_1 := blk_frozen BK112.out 1
    have hfz56_2 := blk_frozen BK112.out 2
    have hfz56_3 := blk_frozen BK112.out 3
    go_upto_region 17 with (first | ((with_reducible refine gate_callee (f := 123) rfl ?_); refine goesL_ (some 34) rfl rfl Try.func123 (by kernel_rfl) rfl #[.slice A0_3 l0_3.length c0_3] rfl zq1 ?_; (with_reducible refine (impl_OidOk.calls k _ _ l0_3 t117 _ ?side1 ?side2 A53.out).mono ?_); (case side1 => exact Kd.C_below HR0_3.out zq9); (case side2 => exact HC0_3.out); rintro e w' ⟨rfl, ⟨nd, rfl⟩⟩; refine ⟨_, rfl, ?_⟩))
    (try simp only [Act.put, List.setIfInBounds_toArray, List.set_cons_zero, List.set_cons_succ])
    have H := HC54.out
    clear HC54
    by_cases c57 : t117 = true
    ·subst c57
     rw [if_pos rfl] at H
     obtain ⟨t118, A58, H⟩ := zB H
     try dsimp only at H
     obtain rfl := Option.some.inj H
     have hnb59 := NB112_113.out
     have hnc59 := NB113_112.out
     have hcz60_0 : w7.cell? ⟨gb112, 0, none⟩ = some (.int .i64 a0_0) := (blk_cell BK112.out 0).trans rfl
     have hcz60_1 : w7.cell? ⟨gb112, 1, none⟩ = some (.int .i64 a0_1) := (blk_cell BK112.out 1).trans rfl
     have hcz60_2 : w7.cell? ⟨gb112, 2, none⟩ = some (.string a0_2) := (blk_cell BK112.out 2).trans rfl
     have hcz60_3 : w7.cell? ⟨gb112, 3, none⟩ = some (.slice A0_3 l0_3.length c0_3) := (blk_cell BK112.out 3).trans rfl
     have hfz60_0 := blk_frozen BK112.out 0
     have hfz60_1 := blk_frozen BK112.out 1
     have hfz60_2 := blk_frozen BK112.out 2
     have hfz60_3 := blk_frozen BK112.out 3
     have hcz61_0 : w7.cell? ⟨gb113, 0, none⟩ = some (.int .i64 0) := (blk_cell BK113.out 0).trans rfl
     have hcz61_1 : w7.cell? ⟨gb113, 1, none⟩ = some (.int .i64 0) := (blk_cell BK113.out 1).trans rfl
     have hcz61_2 : w7.cell? ⟨gb113, 2, none⟩ = some (.string (⟨#[]⟩ : ByteArray)) := (blk_cell BK113.out 2).trans rfl
     have hcz61_3 : w7.cell? ⟨gb113, 3, none⟩ = some (.slice none 0 0) := (blk_cell BK113.out 3).trans rfl
     have hfz61_0 := blk_frozen BK113.out 0
     have hfz61_1 := blk_frozen BK113.out 1
     have hfz61_2 := blk_frozen BK113.out 2
     have hfz61_3 := blk_frozen BK113.out 3
     go_wp2_with (first | (go_at_call 93; (with_reducible refine (impl_SameVal.calls k a0_0 a0_1 a0_2 _ _ l0_3 a0_0 0 (⟨#[]⟩ : ByteArray) _ _ l0_3 t118 _ ?side1 ?side2 ?side3 ?side4 A58.out).mono ?_); (case side1 => exact Kd.C_below HR0_3.out zq9); (case side2 => exact HC0_3.out); (case side3 => exact Kd.C_below HR0_3.out zq9); (case side4 => exact HC0_3.out); rintro e w62 ⟨rfl, hb⟩; replace BK112 := zA (blk_below (g := gb112) (o := .cells #[.int .i64 a0_0, .int .i64 a0_1, .string a0_2, .slice A0_3 l0_3.length c0_3] 76 (0, 0)) zq40 hb); replace BK113 := zA (blk_below (g := gb113) (o := .cells #[.int .i64 a0_0, .int .i64 0, .string (⟨#[]⟩ : ByteArray), .slice A0_3 l0_3.length c0_3] 76 (0, 0)) (by (with_reducible repeat (first | refine blk_drewN ?_ _ | refine blk_drew ?_ | refine blk_alloc ?_ _)); refine blk_put (cs := #[.int .i64 a0_0, .int .i64 0, .string (⟨#[]⟩ : ByteArray), .slice none 0 0]) ?_ 3 _ rfl; (with_reducible repeat (first | refine blk_drewN ?_ _ | refine blk_drew ?_ | refine blk_alloc ?_ _)); refine blk_put (cs := #[.int .i64 a0_0, .int .i64 0, .string (⟨#[]⟩ : ByteArray), .slice none 0 0]) ?_ 3 _ rfl; (with_reducible repeat (first | refine blk_drewN ?_ _ | refine blk_drew ?_ | refine blk_alloc ?_ _)); refine blk_put (cs := #[.int .i64 a0_0, .int .i64 0, .string (⟨#[]⟩ : ByteArray), .slice none 0 0]) ?_ 2 _ rfl; (with_reducible repeat (first | refine blk_drewN ?_ _ | refine blk_drew ?_ | refine blk_alloc ?_ _)); refine blk_put (cs := #[.int .i64 a0_0, .int .i64 0, .string (⟨#[]⟩ : ByteArray), .slice none 0 0]) ?_ 1 _ rfl; (with_reducible repeat (first | refine blk_drewN ?_ _ | refine blk_drew ?_ | refine blk_alloc ?_ _)); refine blk_put (cs := #[.int .i64 0, .int .i64 0, .string (⟨#[]⟩ : ByteArray), .slice none 0 0]) ?_ 0 _ rfl; (with_reducible repeat (first | refine blk_drewN ?_ _ | refine blk_drew ?_ | refine blk_alloc ?_ _)); exact BK113.out) hb); replace HB := zA (below_step zq9 hb); clear hb))
     go_ret
     exact ⟨zq2, zq9⟩
    ·replace c57 := Bool.eq_false_iff.mpr c57
     subst c57
     rw [if_neg zF] at H
     obtain rfl := Option.some.inj H
     go_wp2
     go_ret
     exact ⟨zq2, zq9⟩
   ·rw [if_neg c47] at H
    have c47b0 : (a0_0 == 6) = false := beq_eq_false_iff_ne.mpr c47
    have c47b1 : (a0_0 != 6) = true := bne_iff_ne.mpr c47
    have HC63 := zA H
    clear H
    go_upto_region 14 with (fail)
    have H := HC63.out
    clear HC63
    by_cases c64 : a0_0 = 5
    ·rw [if_pos c64] at H
     have c64b0 : (a0_0 == 5) = true := beq_iff_eq.mpr c64
     have c64b1 : (a0_0 != 5) = false := bne_eq_false_iff_eq.mpr c64
     clear c64
     have HC65 := zA H
     clear H
     go_upto_region 17 with (fail)
     have H := HC65.out
     clear HC65
     obtain ⟨t119, A66, H⟩ := zB H
     try dsimp only at H
     obtain rfl := Option.some.inj H
     have hnb67 := NB112_113.out
     have hnc67 := NB113_112.out
     have hcz68_0 : w7.cell? ⟨gb112, 0, none⟩ = some (.int .i64 a0_0) := (blk_cell BK112.out 0).trans rfl
     have hcz68_1 : w7.cell? ⟨gb112, 1, none⟩ = some (.int .i64 a0_1) := (blk_cell BK112.out 1).trans rfl
     have hcz68_2 : w7.cell? ⟨gb112, 2, none⟩ = some (.string a0_2) := (blk_cell BK112.out 2).trans rfl
     have hcz68_3 : w7.cell? ⟨gb112, 3, none⟩ = some (.slice A0_3 l0_3.length c0_3) := (blk_cell BK112.out 3).trans rfl
     have hfz68_0 := blk_frozen BK112.out 0
     have hfz68_1 := blk_frozen BK112.out 1
     have hfz68_2 := blk_frozen BK112.out 2
     have hfz68_3 := blk_frozen BK112.out 3
     have hcz69_0 : w7.cell? ⟨gb113, 0, none⟩ = some (.int .i64 0) := (blk_cell BK113.out 0).trans rfl
     have hcz69_1 : w7.cell? ⟨gb113, 1, none⟩ = some (.int .i64 0) := (blk_cell BK113.out 1).trans rfl
     have hcz69_2 : w7.cell? ⟨gb113, 2, none⟩ = some (.string (⟨#[]⟩ : ByteArray)) := (blk_cell BK113.out 2).trans rfl
     have hcz69_3 : w7.cell? ⟨gb113, 3, none⟩ = some (.slice none 0 0) := (blk_cell BK113.out 3).trans rfl
     have hfz69_0 := blk_frozen BK113.out 0
     have hfz69_1 := blk_frozen BK113.out 1
     have hfz69_2 := blk_frozen BK113.out 2
     have hfz69_3 := blk_frozen BK113.out 3
     go_wp2_with (first | (go_at_call 93; (refine (impl_SameVal.calls k a0_0 a0_1 a0_2 _ _ l0_3 a0_0 0 (⟨#[]⟩ : ByteArray) _ _ ([] : List Int) t119 _ ?side1 ?side2 ?side3 ?side4 A66.out).mono ?_); (case side1 => exact Kd.C_below HR0_3.out zq9); (case side2 => exact HC0_3.out); (case side3 => exact Kd.C_nil _ _); (case side4 => exact Nat.le_refl _); rintro e w70 ⟨rfl, hb⟩; replace BK112 := zA (blk_below (g := gb112) (o := .cells #[.int .i64 a0_0, .int .i64 a0_1, .string a0_2, .slice A0_3 l0_3.length c0_3] 76 (0, 0)) zq52 hb); replace BK113 := zA (blk_below (g := gb113) (o := .cells #[.int .i64 a0_0, .int .i64 0, .string (⟨#[]⟩ : ByteArray), .slice none 0 0] 76 (0, 0)) zq35 hb); replace HB := zA (below_step zq9 hb); clear hb))
     go_ret
     exact ⟨zq2, zq9⟩
    ·rw [if_neg c64] at H
     have c64b0 : (a0_0 == 5) = false := beq_eq_false_iff_ne.mpr c64
     have c64b1 : (a0_0 != 5) = true := bne_iff_ne.mpr c64
     have HC71 := zA H
     clear H
     go_upto_region 15 with (fail)
     have H := HC71.out
     clear HC71
     by_cases c72 : a0_0 = 128
     ·rw [if_pos c72] at H
      have c72b0 : (a0_0 == 128) = true := beq_iff_eq.mpr c72
      have c72b1 : (a0_0 != 128) = false := bne_eq_false_iff_eq.mpr c72
      clear c72
      have HC73 := zA H
      clear H
      go_upto_region 17 with (fail)
      have H := HC73.out
      clear HC73
      obtain ⟨t120, A74, H⟩ := zB H
      try dsimp only at H
      obtain rfl := Option.some.inj H
      have hnb75 := NB112_113.out
      have hnc75 := NB113_112.out
      have hcz76_0 : w7.cell? ⟨gb112, 0, none⟩ = some (.int .i64 a0_0) := (blk_cell BK112.out 0).trans rfl
      have hcz76_1 : w7.cell? ⟨gb112, 1, none⟩ = some (.int .i64 a0_1) := (blk_cell BK112.out 1).trans rfl
      have hcz76_2 : w7.cell? ⟨gb112, 2, none⟩ = some (.string a0_2) := (blk_cell BK112.out 2).trans rfl
      have hcz76_3 : w7.cell? ⟨gb112, 3, none⟩ = some (.slice A0_3 l0_3.length c0_3) := (blk_cell BK112.out 3).trans rfl
      have hfz76_0 := blk_frozen BK112.out 0
      have hfz76_1 := blk_frozen BK112.out 1
      have hfz76_2 := blk_frozen BK112.out 2
      have hfz76_3 := blk_frozen BK112.out 3
      have hcz77_0 : w7.cell? ⟨gb113, 0, none⟩ = some (.int .i64 0) := (blk_cell BK113.out 0).trans rfl
      have hcz77_1 : w7.cell? ⟨gb113, 1, none⟩ = some (.int .i64 0) := (blk_cell BK113.out 1).trans rfl
      have hcz77_2 : w7.cell? ⟨gb113, 2, none⟩ = some (.string (⟨#[]⟩ : ByteArray)) := (blk_cell BK113.out 2).trans rfl
      have hcz77_3 : w7.cell? ⟨gb113, 3, none⟩ = some (.slice none 0 0) := (blk_cell BK113.out 3).trans rfl
      have hfz77_0 := blk_frozen BK113.out 0
      have hfz77_1 := blk_frozen BK113.out 1
      have hfz77_2 := blk_frozen BK113.out 2
      have hfz77_3 := blk_frozen BK113.out 3
      go_wp2_with (first | (go_at_call 93; (refine (impl_SameVal.calls k a0_0 a0_1 a0_2 _ _ l0_3 a0_0 0 (⟨#[]⟩ : ByteArray) _ _ ([] : List Int) t120 _ ?side1 ?side2 ?side3 ?side4 A74.out).mono ?_); (case side1 => exact Kd.C_below HR0_3.out zq9); (case side2 => exact HC0_3.out); (case side3 => exact Kd.C_nil _ _); (case side4 => exact Nat.le_refl _); rintro e w78 ⟨rfl, hb⟩; replace BK112 := zA (blk_below (g := gb112) (o := .cells #[.int .i64 a0_0, .int .i64 a0_1, .string a0_2, .slice A0_3 l0_3.length c0_3] 76 (0, 0)) zq52 hb); replace BK113 := zA (blk_below (g := gb113) (o := .cells #[.int .i64 a0_0, .int .i64 0, .string (⟨#[]⟩ : ByteArray), .slice none 0 0] 76 (0, 0)) zq35 hb); replace HB := zA (below_step zq9 hb); clear hb))
      go_ret
      exact ⟨zq2, zq9⟩
     ·rw [if_neg c72] at H
      have c72b0 : (a0_0 == 128) = false := beq_eq_false_iff_ne.mpr c72
      have c72b1 : (a0_0 != 128) = true := bne_iff_ne.mpr c72
      have HC79 := zA H
      clear H
      go_upto_region 16 with (fail)
      have H := HC79.out
      clear HC79
      by_cases c80 : a0_0 = 130
      ·rw [if_pos c80] at H
       have c80b0 : (a0_0 == 130) = true := beq_iff_eq.mpr c80
       have c80b1 : (a0_0 != 130) = false := bne_eq_false_iff_eq.mpr c80
       clear c80
       have HC81 := zA H
       clear H
       go_upto_region 17 with (fail)
       have H := HC81.out
       clear HC81
       obtain ⟨t121, A82, H⟩ := zB H
       try dsimp only at H
       obtain rfl := Option.some.inj H
       have hnb83 := NB112_113.out
       have hnc83 := NB113_112.out
       have hcz84_0 : w7.cell? ⟨gb112, 0, none⟩ = some (.int .i64 a0_0) := (blk_cell BK112.out 0).trans rfl
       have hcz84_1 : w7.cell? ⟨gb112, 1, none⟩ = some (.int .i64 a0_1) := (blk_cell BK112.out 1).trans rfl
       have hcz84_2 : w7.cell? ⟨gb112, 2, none⟩ = some (.string a0_2) := (blk_cell BK112.out 2).trans rfl
       have hcz84_3 : w7.cell? ⟨gb112, 3, none⟩ = some (.slice A0_3 l0_3.length c0_3) := (blk_cell BK112.out 3).trans rfl
       have hfz84_0 := blk_frozen BK112.out 0
       have hfz84_1 := blk_frozen BK112.out 1
       have hfz84_2 := blk_frozen BK112.out 2
       have hfz84_3 := blk_frozen BK112.out 3
       have hcz85_0 : w7.cell? ⟨gb113, 0, none⟩ = some (.int .i64 0) := (blk_cell BK113.out 0).trans rfl
       have hcz85_1 : w7.cell? ⟨gb113, 1, none⟩ = some (.int .i64 0) := (blk_cell BK113.out 1).trans rfl
       have hcz85_2 : w7.cell? ⟨gb113, 2, none⟩ = some (.string (⟨#[]⟩ : ByteArray)) := (blk_cell BK113.out 2).trans rfl
       have hcz85_3 : w7.cell? ⟨gb113, 3, none⟩ = some (.slice none 0 0) := (blk_cell BK113.out 3).trans rfl
       have hfz85_0 := blk_frozen BK113.out 0
       have hfz85_1 := blk_frozen BK113.out 1
       have hfz85_2 := blk_frozen BK113.out 2
       have hfz85_3 := blk_frozen BK113.out 3
       go_wp2_with (first | (go_at_call 93; (refine (impl_SameVal.calls k a0_0 a0_1 a0_2 _ _ l0_3 a0_0 0 (⟨#[]⟩ : ByteArray) _ _ ([] : List Int) t121 _ ?side1 ?side2 ?side3 ?side4 A82.out).mono ?_); (case side1 => exact Kd.C_below HR0_3.out zq9); (case side2 => exact HC0_3.out); (case side3 => exact Kd.C_nil _ _); (case side4 => exact Nat.le_refl _); rintro e w86 ⟨rfl, hb⟩; replace BK112 := zA (blk_below (g := gb112) (o := .cells #[.int .i64 a0_0, .int .i64 a0_1, .string a0_2, .slice A0_3 l0_3.length c0_3] 76 (0, 0)) zq52 hb); replace BK113 := zA (blk_below (g := gb113) (o := .cells #[.int .i64 a0_0, .int .i64 0, .string (⟨#[]⟩ : ByteArray), .slice none 0 0] 76 (0, 0)) zq35 hb); replace HB := zA (below_step zq9 hb); clear hb))
       go_ret
       exact ⟨zq2, zq9⟩
      ·rw [if_neg c80] at H
       have c80b0 : (a0_0 == 130) = false := beq_eq_false_iff_ne.mpr c80
       have c80b1 : (a0_0 != 130) = true := bne_iff_ne.mpr c80
       have HC87 := zA H
       clear H
       go_upto_region 4 with (fail)
       have H := HC87.out
       clear HC87
       obtain rfl := Option.some.inj H
       go_wp2
       go_ret
       exact ⟨zq2, zq9⟩

/-! ### impl_tlv: function 106 -/
def impl_tlv.j0 : Nat → Int → List Int → Bool → Option (List Int × Bool)
 | 0, _, _, _ => none
 | k + 1, x0, x1, x14 => if x14 = true then (some (([] : List Int), false)) else ((some (([(x0) % 256] : List Int) : List Int)).bind fun y123 => (if (x1.length : Int) ≥ 128 then (if y123.length < 140737488355328 then ((some (y123 ++ [129] : List Int)).bind fun y126 => (if y126.length < 140737488355328 then ((some (y126 ++ [((x1.length : Int)) % 256] : List Int)).bind fun y129 => (if y129.length + x1.length < 140737488355328 then (some ((y129 ++ x1), true)) else (none))) else (none))) else (none)) else (if y123.length < 140737488355328 then ((some (y123 ++ [((x1.length : Int)) % 256] : List Int)).bind fun y135 => (if y135.length + x1.length < 140737488355328 then (some ((y135 ++ x1), true)) else (none))) else (none))))
def impl_tlv.f (k : Nat) (a0 : Int) (l1 : List Int) : Option (List Int × Bool) := (impl_in.f a0 0 255).bind fun t122 => (if t122 = true then (impl_tlv.j0 k a0 l1 (decide ((l1.length : Int) > 250))) else (impl_tlv.j0 k a0 l1 true))
theorem impl_tlv.mono_l : ∀ k, (∀ y0 y1 y2, LeO (impl_tlv.j0 k y0 y1 y2) (impl_tlv.j0 (k + 1) y0 y1 y2))
 | 0 => fun _ _ _ r h => by simp [impl_tlv.j0] at h
 | k + 1 => by
  have ih0 := impl_tlv.mono_l k
  ·intro y0 y1 y2
   unfold impl_tlv.j0
   exact zR
theorem impl_tlv.mono : ∀ a0 a1 k, LeO (impl_tlv.f k a0 a1) (impl_tlv.f (k + 1) a0 a1) := by
 intro a0 a1 k
 have ih0 := impl_tlv.mono_l k
 unfold impl_tlv.f
 exact zR
set_option maxHeartbeats 8000000 in
set_option maxRecDepth 100000 in
theorem impl_tlv.calls (k : Nat) (a0 : Int) (A1 : Option Addr) (c1 : Nat) (l1 : List Int) (r1 : List Int) (r2 : Bool) (w : World) (hr1 : Kd.C (Kd.int .u8) w A1 l1.length l1) (hc1 : l1.length ≤ c1) (h : impl_tlv.f k a0 l1 = some (r1, r2)) :
  Calls Try.prog 106 #[.int .i64 a0, .slice A1 l1.length c1] w fun e w' => ∃ v0_ : Value, e = .returned (.tuple #[v0_, .bool r2]) ∧ Kd.R (Kd.int .u8) 5 w' w.heap.size (fun _ => True) v0_ r1 ∧ Below w.heap.size w w' := by
 have HR1 := zA hr1
 have HC1 := zA hc1
 clear hr1 hc1
 have HB := zA (Below.refl w.heap.size w)
 unfold impl_tlv.f at h
 have H := h
 clear h
 have HC3 := zA H
 clear H
 go_enter Try.func106, Try.ntmps106
 go_upto_region 0 with (fail)
 have H := HC3.out
 clear HC3
 have HC4 := zA H
 clear H
 go_upto_region 1 with (fail)
 have H := HC4.out
 clear HC4
 have HC5 := zA H
 clear H
 go_upto_region 1 with (fail)
 go_cut [14] (fun v14 wc => ∃ (kq : Nat) (x14_4 : Bool), v14 = .bool x14_4 ∧ Aside0 (impl_tlv.j0 kq a0 l1 x14_4 = some (r1, r2)) ∧ Aside0 (kq ≤ k) ∧ Aside0 (Below w.heap.size w wc))
 case first =>
  have H := HC5.out
  clear HC5
  obtain ⟨t122, A6, H⟩ := zB H
  try dsimp only at H
  by_cases c7 : t122 = true
  ·subst c7
   rw [if_pos rfl] at H
   have H' := zA H
   clear H
   go_wp2_with (first | ((with_reducible refine gate_callee (f := 122) rfl ?_); refine goesL_ (some 8) rfl rfl Try.func122 (by kernel_rfl) rfl #[.int .i64 a0, .int .i64 0, .int .i64 255] rfl zq1 ?_; (with_reducible refine (impl_in.calls a0 0 255 true _ A6.out).mono ?_); rintro e w' ⟨rfl, ⟨nd, rfl⟩⟩; refine ⟨_, rfl, ?_⟩))
   go_meet
   case rel => exact ⟨_, (decide ((l1.length : Int) > 250)), zq10, H', ⟨zq132⟩, ⟨zq0⟩⟩
  ·replace c7 := Bool.eq_false_iff.mpr c7
   subst c7
   rw [if_neg zF] at H
   have H' := zA H
   clear H
   go_wp2_with (first | ((with_reducible refine gate_callee (f := 122) rfl ?_); refine goesL_ (some 8) rfl rfl Try.func122 (by kernel_rfl) rfl #[.int .i64 a0, .int .i64 0, .int .i64 255] rfl zq1 ?_; (with_reducible refine (impl_in.calls a0 0 255 false _ A6.out).mono ?_); rintro e w' ⟨rfl, ⟨nd, rfl⟩⟩; refine ⟨_, rfl, ?_⟩))
   go_meet
   case rel => exact ⟨_, (true), zq10, H', ⟨zq132⟩, ⟨zq0⟩⟩
 case rest =>
  clear HC5
  try clear c1
  try clear p2
  try clear c7
  obtain ⟨kq, x14_4, rfl, HA, HJ4, HB⟩ := hcut
  cases kq with
  | zero => exact absurd HA.out (by simp [impl_tlv.j0])
  | succ kj4 =>
   have H := HA.out
   clear HA
   simp only [impl_tlv.j0] at H
   by_cases c8 : x14_4 = true
   ·subst c8
    rw [if_pos rfl] at H
    have HC9 := zA H
    clear H
    go_upto_region 2 with (fail)
    have H := HC9.out
    clear HC9
    simp only [Option.some.injEq, Prod.mk.injEq] at H
    obtain ⟨rfl, rfl⟩ := H
    go_wp2
    go_ret2
    exact ⟨_, zq2, zq6, zq0⟩
   ·replace c8 := Bool.eq_false_iff.mpr c8
    subst c8
    rw [if_neg zF] at H
    have HC10 := zA H
    clear H
    go_upto_region 3 with (fail)
    have H := HC10.out
    clear HC10
    obtain ⟨y123, Ny123, H⟩ := zS (([(a0) % 256] : List Int)) H
    have HC11 := zA H
    clear H
    go_upto_region 4 with (first | ((with_reducible refine gate_dst (N := 17) rfl ?_); (try (refine gate_guard zq84 ?_; dsimp only)); refine Kd.R_lit (Kd.int .u8) _ 5 ?hg (N := 17) ?hd (xs := ([(a0) % 256] : List Int)) (inner := [.int .u8 ((a0) % 256)]) (ok := fun _ => True) (okp := fun _ => True) ?hr ?hp (fun _ hk => hk) trivial (Below.refl _ _) (Nat.le_refl _) zq134 ?_; (case hd => rfl); (case hg => rfl); (case hr => first | (go_simp; done) | (go_simp; rfl)); (case hp => exact (Reps.one (show Kd.M (Kd.int .u8) _ _ _ ((a0) % 256) [.int .u8 ((a0) % 256)] from rfl) (Reps.none _ _))); intro v124 w12 ho13 hb hg_ hnew_; clear hg_ hnew_; (first | rw [← Ny123.out] at ho13 | (simp only [Int.reduceToNat] at ho13; rw [← Ny123.out] at ho13)); have HO125 := zA (Kd.R_lower ho13 (below_size zq0)); replace HB := zA (below_step zq0 hb); clear hb ho13))
    (try simp only [Act.put, List.setIfInBounds_toArray, List.set_cons_zero, List.set_cons_succ])
    have H := HC11.out
    clear HC11
    by_cases c14 : (l1.length : Int) ≥ 128
    ·rw [if_pos c14] at H
     have c14b0 : decide (128 ≤ (l1.length : Int)) = true := decide_eq_true c14
     have c14b1 : decide (128 ≤ l1.length) = true := decide_eq_true zq144
     clear c14
     have HC15 := zA H
     clear H
     go_upto_region 5 with (fail)
     have H := HC15.out
     clear HC15
     obtain ⟨c16, H⟩ := zN H
     have LMc16 := zA c16
     clear c16
     obtain ⟨y126, Ny126, H⟩ := zS (y123 ++ [129]) H
     have HC17 := zA H
     clear H
     go_upto_region 6 with (first | ((with_reducible refine gate_builtin (b := .append) (xs := #[.tmp 21, .tmp 22]) rfl ?_); (try (refine gate_guard zq84 ?_; dsimp only)); at_builtin; refine Kd.R_append (Kd.int .u8) (w0 := w) w.heap.size rfl (.tmp 21) (.tmp 22) 22 5 (.int .u8 0) 1 rfl Try.underlying22 info5 rfl zq39 zq144 v124 y123 129 [.int .u8 129] (fun _ => True) (fun _ => False) rfl rfl ?aP (fun _ hk => hk.elim) ?aF ?aO ?aB ?aS ?aL ?_; (case aP => exact rfl); (case aB => exact zq0); (case aF => exact (fun _ _ => trivial)); (case aO => exact zq201); (case aS => exact (below_size zq0)); (case aL => have := LMc16.out; omega); intro v127 w18 ho hb hg hat; rw [← Ny126.out] at ho; replace HB := zA (hb); have HO128 := zA (ho); clear HO125; clear ho hb hg hat))
     (try simp only [Act.put, List.setIfInBounds_toArray, List.set_cons_zero, List.set_cons_succ])
     have H := HC17.out
     clear HC17
     obtain ⟨c19, H⟩ := zN H
     have LMc19 := zA c19
     clear c19
     obtain ⟨y129, Ny129, H⟩ := zS (y126 ++ [((l1.length : Int)) % 256]) H
     obtain ⟨c20, H⟩ := zN H
     have LMc20 := zA c20
     clear c20
     obtain ⟨y132, hy132⟩ : ∃ y_ : List Int, y_ = (y129 ++ l1) := ⟨_, rfl⟩
     rw [← hy132] at H
     have Ny132 := zA hy132
     clear hy132
     simp only [Option.some.injEq, Prod.mk.injEq] at H
     obtain ⟨rfl, rfl⟩ := H
     go_wp2_with (first | ((with_reducible refine gate_builtin (b := .append) (xs := #[.tmp 24, .tmp 28]) rfl ?_); (try (refine gate_guard zq84 ?_; dsimp only)); at_builtin; refine Kd.R_append (Kd.int .u8) (w0 := w) w.heap.size rfl (.tmp 24) (.tmp 28) 22 5 (.int .u8 0) 1 rfl Try.underlying22 info5 rfl zq39 zq144 v127 y126 (((l1.length : Int)) % 256) [.int .u8 (((l1.length : Int)) % 256)] (fun _ => True) (fun _ => False) rfl rfl ?aP (fun _ hk => hk.elim) ?aF ?aO ?aB ?aS ?aL ?_; (case aP => exact rfl); (case aB => exact zq0); (case aF => exact (fun _ _ => trivial)); (case aO => exact (by (with_reducible repeat (first | apply Kd.R_alloc | apply Kd.R_drewN | apply Kd.R_drew)); exact HO128.out)); (case aS => exact (below_size zq0)); (case aL => have := LMc19.out; omega); intro v130 w21 ho hb hg hat; rw [← Ny129.out] at ho; replace HB := zA (hb); have HO131 := zA (ho); clear HO128; clear ho hb hg hat) | ((with_reducible refine gate_builtin (b := .append) (xs := #[.tmp 29, .tmp 30]) rfl ?_); (try (refine gate_guard zq84 ?_; dsimp only)); at_builtin; refine Kd.R_append_rows (Kd.int .u8) (w0 := w) w.heap.size rfl (.tmp 29) (.tmp 30) 22 5 (.int .u8 0) 1 rfl Try.underlying22 info5 rfl zq39 zq144 v130 y129 l1 _ _ _ (fun _ => True) (fun _ => False) rfl rfl ?aO ?aR (fun _ _ h => h) (fun _ h => h.elim) ?aF ?aB ?aS ?aL ?_; (case aR => repeat (first | exact (Kd.C_below HR1.out HB.out) | (with_reducible refine Kd.C_alloc ?_ _) | (with_reducible refine Kd.C_drewN ?_ _) | (with_reducible refine Kd.C_drew ?_))); (case aB => exact zq0); (case aF => exact (fun _ _ => trivial)); (case aO => exact (by (with_reducible repeat (first | apply Kd.R_alloc | apply Kd.R_drewN | apply Kd.R_drew)); exact HO131.out)); (case aS => exact (below_size zq0)); (case aL => have := LMc20.out; omega); intro v133 w22 ho hb hg hat; rw [← Ny132.out] at ho; replace HB := zA (hb); have HO134 := zA (ho); clear HO131; clear ho hb hg hat))
     go_ret2
     exact ⟨_, zq2, (by (with_reducible repeat (first | apply Kd.R_alloc | apply Kd.R_drewN | apply Kd.R_drew)); exact HO134.out), zq0⟩
    ·rw [if_neg c14] at H
     have c14b0 : decide (128 ≤ (l1.length : Int)) = false := decide_eq_false c14
     have c14b1 : decide (128 ≤ l1.length) = false := decide_eq_false zq144
     clear c14
     have HC23 := zA H
     clear H
     go_upto_region 6 with (fail)
     have H := HC23.out
     clear HC23
     obtain ⟨c24, H⟩ := zN H
     have LMc24 := zA c24
     clear c24
     obtain ⟨y135, Ny135, H⟩ := zS (y123 ++ [((l1.length : Int)) % 256]) H
     obtain ⟨c25, H⟩ := zN H
     have LMc25 := zA c25
     clear c25
     obtain ⟨y138, hy138⟩ : ∃ y_ : List Int, y_ = (y135 ++ l1) := ⟨_, rfl⟩
     rw [← hy138] at H
     have Ny138 := zA hy138
     clear hy138
     simp only [Option.some.injEq, Prod.mk.injEq] at H
     obtain ⟨rfl, rfl⟩ := H
     go_wp2_with (first | ((with_reducible refine gate_builtin (b := .append) (xs := #[.tmp 24, .tmp 28]) rfl ?_); (try (refine gate_guard zq84 ?_; dsimp only)); at_builtin; refine Kd.R_append (Kd.int .u8) (w0 := w) w.heap.size rfl (.tmp 24) (.tmp 28) 22 5 (.int .u8 0) 1 rfl Try.underlying22 info5 rfl zq39 zq144 v124 y123 (((l1.length : Int)) % 256) [.int .u8 (((l1.length : Int)) % 256)] (fun _ => True) (fun _ => False) rfl rfl ?aP (fun _ hk => hk.elim) ?aF ?aO ?aB ?aS ?aL ?_; (case aP => exact rfl); (case aB => exact zq0); (case aF => exact (fun _ _ => trivial)); (case aO => exact zq201); (case aS => exact (below_size zq0)); (case aL => have := LMc24.out; omega); intro v136 w26 ho hb hg hat; rw [← Ny135.out] at ho; replace HB := zA (hb); have HO137 := zA (ho); clear HO125; clear ho hb hg hat) | ((with_reducible refine gate_builtin (b := .append) (xs := #[.tmp 29, .tmp 30]) rfl ?_); (try (refine gate_guard zq84 ?_; dsimp only)); at_builtin; refine Kd.R_append_rows (Kd.int .u8) (w0 := w) w.heap.size rfl (.tmp 29) (.tmp 30) 22 5 (.int .u8 0) 1 rfl Try.underlying22 info5 rfl zq39 zq144 v136 y135 l1 _ _ _ (fun _ => True) (fun _ => False) rfl rfl ?aO ?aR (fun _ _ h => h) (fun _ h => h.elim) ?aF ?aB ?aS ?aL ?_; (case aR => repeat (first | exact (Kd.C_below HR1.out HB.out) | (with_reducible refine Kd.C_alloc ?_ _) | (with_reducible refine Kd.C_drewN ?_ _) | (with_reducible refine Kd.C_drew ?_))); (case aB => exact zq0); (case aF => exact (fun _ _ => trivial)); (case aO => exact (by (with_reducible repeat (first | apply Kd.R_alloc | apply Kd.R_drewN | apply Kd.R_drew)); exact HO137.out)); (case aS => exact (below_size zq0)); (case aL => have := LMc25.out; omega); intro v139 w27 ho hb hg hat; rw [← Ny138.out] at ho; replace HB := zA (hb); have HO140 := zA (ho); clear HO137; clear ho hb hg hat))
     go_ret2
     exact ⟨_, zq2, (by (with_reducible repeat (first | apply Kd.R_alloc | apply Kd.R_drewN | apply Kd.R_drew)); exact HO140.out), zq0⟩

/-! ### impl_copyBytes: function 155 -/
def impl_copyBytes.f (l0 : List Int) : Option (List Int) := if ([] : List Int).length + l0.length < 140737488355328 then (some (([] : List Int) ++ l0)) else (none)
set_option maxHeartbeats 8000000 in
set_option maxRecDepth 100000 in
theorem impl_copyBytes.calls (A0 : Option Addr) (c0 : Nat) (l0 : List Int) (r : List Int) (w : World) (hr0 : Kd.C (Kd.int .u8) w A0 l0.length l0) (hc0 : l0.length ≤ c0) (h : impl_copyBytes.f l0 = some r) :
  Calls Try.prog 155 #[.slice A0 l0.length c0] w fun e w' => ∃ v0_ : Value, e = .returned (v0_) ∧ Kd.R (Kd.int .u8) 5 w' w.heap.size (fun _ => True) v0_ r ∧ Below w.heap.size w w' := by
 have HR0 := zA hr0
 have HC0 := zA hc0
 clear hr0 hc0
 have HB := zA (Below.refl w.heap.size w)
 unfold impl_copyBytes.f at h
 have H := h
 clear h
 have HC2 := zA H
 clear H
 go_enter Try.func155, Try.ntmps155
 go_upto_region 0 with (fail)
 have H := HC2.out
 clear HC2
 have HC3 := zA H
 clear H
 go_upto_region 1 with (fail)
 have H := HC3.out
 clear HC3
 obtain ⟨c4, H⟩ := zN H
 have LMc4 := zA c4
 clear c4
 obtain ⟨y141, hy141⟩ : ∃ y_ : List Int, y_ = (([] : List Int) ++ l0) := ⟨_, rfl⟩
 rw [← hy141] at H
 have Ny141 := zA hy141
 clear hy141
 obtain rfl := Option.some.inj H
 go_wp2_with (first | ((with_reducible refine gate_builtin (b := .append) (xs := #[.const (.slice none 0 0), .tmp 3]) rfl ?_); at_builtin; refine Kd.R_append_rows (Kd.int .u8) (w0 := w) w.heap.size rfl (.const (.slice none 0 0)) (.tmp 3) 22 5 (.int .u8 0) 1 rfl Try.underlying22 info5 rfl zq39 zq144 (.slice none 0 0) ([] : List Int) l0 _ _ _ (fun _ => True) (fun _ => False) rfl rfl ?aO ?aR (fun _ _ h => h) (fun _ h => h.elim) ?aF ?aB ?aS ?aL ?_; (case aR => repeat (first | exact (Kd.C_below HR0.out HB.out) | (with_reducible refine Kd.C_alloc ?_ _) | (with_reducible refine Kd.C_drewN ?_ _) | (with_reducible refine Kd.C_drew ?_))); (case aB => exact zq0); (case aF => exact (fun _ _ => trivial)); (case aO => exact ((Kd.R_nil _ _ _ _ (fun _ => True)))); (case aS => exact (below_size zq0)); (case aL => have := LMc4.out; omega); intro v142 w5 ho hb hg hat; rw [← Ny141.out] at ho; replace HB := zA (hb); have HO143 := zA (ho); clear ho hb hg hat))
 go_ret
 exact ⟨_, zq2, (by (with_reducible repeat (first | apply Kd.R_alloc | apply Kd.R_drewN | apply Kd.R_drew)); exact HO143.out), zq0⟩

/-! ### impl_PutTlv: function 107 -/
def impl_PutTlv.f (k : Nat) (l0 : List Int) (a1 : Int) (l2 : List Int) : Option (List Int) := (impl_tlv.f k a1 l2).bind fun bt144 => ((impl_copyBytes.f l0).bind fun t148 => (if t148.length + bt144.1.length < 140737488355328 then (some (t148 ++ bt144.1)) else (none)))
theorem impl_PutTlv.mono : ∀ a0 a1 a2 k, LeO (impl_PutTlv.f k a0 a1 a2) (impl_PutTlv.f (k + 1) a0 a1 a2) := by
 intro a0 a1 a2 k
 unfold impl_PutTlv.f
 have m0_ := @impl_tlv.mono
 exact zR
set_option maxHeartbeats 8000000 in
set_option maxRecDepth 100000 in
theorem impl_PutTlv.calls (k : Nat) (A0 : Option Addr) (c0 : Nat) (l0 : List Int) (a1 : Int) (A2 : Option Addr) (c2 : Nat) (l2 : List Int) (r : List Int) (w : World) (hr0 : Kd.C (Kd.int .u8) w A0 l0.length l0) (hc0 : l0.length ≤ c0) (hr2 : Kd.C (Kd.int .u8) w A2 l2.length l2) (hc2 : l2.length ≤ c2) (h : impl_PutTlv.f k l0 a1 l2 = some r) :
  Calls Try.prog 107 #[.slice A0 l0.length c0, .int .i64 a1, .slice A2 l2.length c2] w fun e w' => ∃ v0_ : Value, e = .returned (v0_) ∧ Kd.R (Kd.int .u8) 5 w' w.heap.size (fun _ => True) v0_ r ∧ Below w.heap.size w w' := by
 have HR0 := zA hr0
 have HC0 := zA hc0
 clear hr0 hc0
 have HR2 := zA hr2
 have HC2 := zA hc2
 clear hr2 hc2
 have HB := zA (Below.refl w.heap.size w)
 unfold impl_PutTlv.f at h
 have H := h
 clear h
 have HC4 := zA H
 clear H
 go_enter Try.func107, Try.ntmps107
 go_upto_region 0 with (fail)
 have H := HC4.out
 clear HC4
 have HC5 := zA H
 clear H
 go_upto_region 1 with (fail)
 have H := HC5.out
 clear HC5
 obtain ⟨⟨t144, t145⟩, A6, H⟩ := zB H
 try dsimp only at H
 have HC7 := zA H
 clear H
 go_upto_region 2 with (first | ((with_reducible refine gate_callee (f := 106) rfl ?_); refine goesL_ (some 12) rfl rfl Try.func106 (by kernel_rfl) rfl #[.int .i64 a1, .slice A2 l2.length c2] rfl zq1 ?_; (with_reducible refine (impl_tlv.calls k a1 _ _ l2 t144 t145 _ ?side1 ?side2 A6.out).mono ?_); (case side1 => repeat (first | exact (Kd.C_below HR2.out HB.out) | (with_reducible refine Kd.C_alloc ?_ _) | (with_reducible refine Kd.C_drewN ?_ _) | (with_reducible refine Kd.C_drew ?_))); (case side2 => exact HC2.out); rintro e w8 ⟨v146, rfl, ho0, hb⟩; refine ⟨_, rfl, ?_⟩; have HO147 := zA (Kd.R_lower ho0 (below_size zq0)); replace HB := zA (below_step zq0 hb); clear hb ho0))
 (try simp only [Act.put, List.setIfInBounds_toArray, List.set_cons_zero, List.set_cons_succ])
 have H := HC7.out
 clear HC7
 obtain ⟨t148, A9, H⟩ := zB H
 try dsimp only at H
 obtain ⟨c10, H⟩ := zN H
 have LMc10 := zA c10
 clear c10
 obtain ⟨y151, hy151⟩ : ∃ y_ : List Int, y_ = (t148 ++ t144) := ⟨_, rfl⟩
 rw [← hy151] at H
 have Ny151 := zA hy151
 clear hy151
 obtain rfl := Option.some.inj H
 go_wp2_with (first | ((with_reducible refine gate_callee (f := 155) rfl ?_); refine goesL_ (some 16) rfl rfl Try.func155 (by kernel_rfl) rfl #[.slice A0 l0.length c0] rfl zq1 ?_; (with_reducible refine (impl_copyBytes.calls _ _ l0 t148 _ ?side1 ?side2 A9.out).mono ?_); (case side1 => repeat (first | exact (Kd.C_below HR0.out HB.out) | (with_reducible refine Kd.C_alloc ?_ _) | (with_reducible refine Kd.C_drewN ?_ _) | (with_reducible refine Kd.C_drew ?_))); (case side2 => exact HC0.out); rintro e w11 ⟨v149, rfl, ho0, hb⟩; refine ⟨_, rfl, ?_⟩; have HO150 := zA (Kd.R_lower (Kd.R_new' ho0 (Kd.R_lt zq161)) (below_size zq0)); replace HO147 := zA (Kd.R_elder' zq161 (Kd.R_base ho0) hb); replace HB := zA (below_step zq0 hb); clear hb ho0; obtain ⟨Ao13, co13, eo13⟩ := Kd.R_slice HO147.out; subst eo13) | ((with_reducible refine gate_builtin (b := .append) (xs := #[.tmp 16, .tmp 17]) rfl ?_); at_builtin; refine Kd.R_append_rows (Kd.int .u8) (w0 := w) w.heap.size rfl (.tmp 16) (.tmp 17) 22 5 (.int .u8 0) 1 rfl Try.underlying22 info5 rfl zq39 zq144 v149 t148 t144 _ _ _ (fun k_ => some k_ ≠ (.slice Ao13 t144.length co13 : Value).ownBlock) (fun _ => False) rfl rfl ?aO ?aR (fun _ _ h => h) (fun _ h => h.elim) ?aF ?aB ?aS ?aL ?_; (case aR => repeat (first | exact (Kd.R_reads' HO147.out).2.2 | (with_reducible refine Kd.C_alloc ?_ _) | (with_reducible refine Kd.C_drewN ?_ _) | (with_reducible refine Kd.C_drew ?_))); (case aB => exact zq0); (case aF => exact (fun k_ hk => Kd.fresh' (Kd.R_lt zq161) k_ hk)); (case aO => exact (by (with_reducible repeat (first | apply Kd.R_alloc | apply Kd.R_drewN | apply Kd.R_drew)); exact Kd.R_mono HO150.out (fun _ hk => hk.2))); (case aS => exact (below_size zq0)); (case aL => have := LMc10.out; omega); intro v152 w12 ho hb hg hat; rw [← Ny151.out] at ho; replace HO147 := zA (Kd.R_after (ok := (fun _ => True)) zq161 hg hat); replace HB := zA (hb); have HO153 := zA (ho); clear HO150; clear ho hb hg hat))
 go_ret
 exact ⟨_, zq2, (by (with_reducible repeat (first | apply Kd.R_alloc | apply Kd.R_drewN | apply Kd.R_drew)); exact Kd.R_mono HO153.out (fun _ hk => trivial)), zq0⟩

end Go.Proofs.Ytkcgghgkmgbphaa.PFnVals
