-- WRITTEN BY a turned copy of the kit's printer (wip/patch_print.py), for this claim
import Derived.Test.YtkcgghgkmgbphaaPFnMsgsx0
import Derived.Test.YtkcgghgkmgbphaaPFnMsgsx1
import Derived.Test.YtkcgghgkmgbphaaPFnMsgsx9
namespace Go.Proofs.Ytkcgghgkmgbphaa.PFnMsgs
open Go.RowKit Go.Proofs.YtkcgghgkmgbphaaW.PrintWords Go.Proofs.YtkcgghgkmgbphaaW.PrintLast Go.Proofs.YtkcgghgkmgbphaaW.PrintMore
attribute [local go_sem] max2_int min2_int max_two min_two max_three min_three max_four min_four   -- for this text's walks alone
set_option linter.unusedVariables false
set_option linter.unusedSimpArgs false
set_option maxHeartbeats 8000000
set_option maxRecDepth 100000

attribute [local go_sem] cell_setCell_m
/-! ### impl_ValOk: function 90 -/
def impl_ValOk.f (k : Nat) (a0_0 : Int) (a0_1 : Int) (a0_2 : ByteArray) (l0_3 : List Int) : Option (Bool) := if a0_0 = 2 then ((impl_isInt.f a0_1).bind fun t334 => (if t334 = true then ((impl_SameVal.f k a0_0 a0_1 a0_2 l0_3 a0_0 a0_1 (⟨#[]⟩ : ByteArray) ([] : List Int)).bind fun t335 => (some t335)) else (some false))) else (if a0_0 = 4 then (if (a0_2.size : Int) ≤ 20 then ((impl_SameVal.f k a0_0 a0_1 a0_2 l0_3 a0_0 0 a0_2 ([] : List Int)).bind fun t336 => (some t336)) else (some false)) else (if a0_0 = 6 then ((impl_OidOk.f k l0_3).bind fun t337 => (if t337 = true then ((impl_SameVal.f k a0_0 a0_1 a0_2 l0_3 a0_0 0 (⟨#[]⟩ : ByteArray) l0_3).bind fun t338 => (some t338)) else (some false))) else (if a0_0 = 5 then ((impl_SameVal.f k a0_0 a0_1 a0_2 l0_3 a0_0 0 (⟨#[]⟩ : ByteArray) ([] : List Int)).bind fun t339 => (some t339)) else (if a0_0 = 128 then ((impl_SameVal.f k a0_0 a0_1 a0_2 l0_3 a0_0 0 (⟨#[]⟩ : ByteArray) ([] : List Int)).bind fun t340 => (some t340)) else (if a0_0 = 130 then ((impl_SameVal.f k a0_0 a0_1 a0_2 l0_3 a0_0 0 (⟨#[]⟩ : ByteArray) ([] : List Int)).bind fun t341 => (some t341)) else (some false))))))
theorem impl_ValOk.mono : ∀ a0 a1 a2 a3 k, LeO (impl_ValOk.f k a0 a1 a2 a3) (impl_ValOk.f (k + 1) a0 a1 a2 a3) := by
 intro a0 a1 a2 a3 k
 unfold impl_ValOk.f
 have m0_ := @impl_OidOk.mono
 have m1_ := @impl_SameVal.mono
 exact zR
theorem impl_ValOk.calls (k : Nat) (a0_0 : Int) (a0_1 : Int) (a0_2 : ByteArray) (A0_3 : Option Addr) (c0_3 : Nat) (l0_3 : List Int) (r : Bool) (w : World) (hr0_3 : Kd.C (Kd.int .i64) w A0_3 l0_3.length l0_3) (hc0_3 : l0_3.length ≤ c0_3) (h : impl_ValOk.f k a0_0 a0_1 a0_2 l0_3 = some r) :
  Calls Try.prog 90 #[.agg #[.int .i64 a0_0, .int .i64 a0_1, .string a0_2, .slice A0_3 l0_3.length c0_3]] w fun e w' => e = .returned (.bool r) ∧ Below w.heap.size w w' := by
 have hu76 := Try.underlying76
 have HR0_3 := zA hr0_3
 have HC0_3 := zA hc0_3
 clear hr0_3 hc0_3
 have HB := zA (Below.refl w.heap.size w)
 unfold impl_ValOk.f at h
 have H := zA h
 clear h
 go_enter Try.func90, Try.ntmps90
 go_upto_region 0 with fail
 go_upto_region 1 with (first | ((with_reducible refine gate_dst (N := 1) rfl ?_); refine box_event ?hg (N := 1) ?hd (cs := #[.int .i64 a0_0, .int .i64 a0_1, .string a0_2, .slice A0_3 l0_3.length c0_3]) (t := 76) ?hr ?_; (case hd => rfl); (case hg => rfl); (case hr => exact zgs); intro gb332 hg w4 hbox hb; have BK332 := zA (hbox); have GW332 := zA ((zq5 : w.heap.size ≤ gb332)); have GE332 := zA ((zq5 : w.heap.size ≤ gb332)); replace HB := zA (below_step zq0 hb); clear hb hbox hg))
 (try simp only [zvs])
 have hz6 := zc4 BK332.out
 go_upto_region 2 with (first | ((with_reducible refine gate_dst (N := 3) rfl ?_); refine box_event ?hg (N := 3) ?hd (cs := #[.int .i64 0, .int .i64 0, .string (⟨#[]⟩ : ByteArray), .slice none 0 0]) (t := 76) ?hr ?_; (case hd => rfl); (case hg => rfl); (case hr => exact zgs); intro gb333 hg w7 hbox hb; have BK333 := zA (hbox); have GW333 := zA ((zq252 : w.heap.size ≤ gb333)); have GE333 := zA ((zq252 : w.heap.size ≤ gb333)); replace HB := zA (below_step zq0 hb); have NB332_333 := zA ((by rw [hg]; exact Nat.ne_of_lt (blk_lt (g := gb332) (o := .cells #[.int .i64 a0_0, .int .i64 a0_1, .string a0_2, .slice A0_3 l0_3.length c0_3] 76 (0, 0)) (zbk BK332.out)) : gb332 ≠ gb333)); have NB333_332 := zA ((by rw [hg]; exact Nat.ne_of_gt (blk_lt (g := gb332) (o := .cells #[.int .i64 a0_0, .int .i64 a0_1, .string a0_2, .slice A0_3 l0_3.length c0_3] 76 (0, 0)) (zbk BK332.out)) : gb333 ≠ gb332)); replace BK332 := zA (zbb BK332.out hb); clear hb hbox hg; have hn8 := zn NB333_332; have hz9 := zc4 BK333.out))
 (try simp only [zvs])
 go_upto_region 3 with fail
 have hn12 := zn NB332_333
 have hz13 := zc4 BK332.out
 go_upto_region 5 with fail
 replace H := zP H; rcases H with ⟨c14, H⟩ | ⟨c14, H⟩
 ·have c14b0 : (a0_0 == 2) = true := beq_iff_eq.mpr c14
  have c14b1 : (a0_0 != 2) = false := bne_eq_false_iff_eq.mpr c14
  clear c14
  go_upto_region 6 with fail
  have hn17 := zn NB332_333
  have hz18 := zc4 BK332.out
  have hz19 := zc4 BK333.out
  go_upto_region 7 with fail
  replace H := zB H; obtain ⟨t334, A20, H⟩ := H
  try dsimp only at H
  have hn22 := zn NB332_333
  have hz23 := zc4 BK332.out
  go_upto_region 17 with (first | ((with_reducible refine zg124 rfl ?_); refine zl124 (some 17) #[.int .i64 a0_1] ?_; (with_reducible refine (impl_isInt.calls a0_1 t334 _ A20.out).mono ?_); rintro e w' ⟨rfl, ⟨nd, rfl⟩⟩; refine ⟨_, rfl, ?_⟩))
  (try simp only [zvs])
  replace H := zE H; rcases H with ⟨rfl, H⟩ | ⟨rfl, H⟩
  ·replace H := zB H; obtain ⟨t335, A25, H⟩ := H
   try dsimp only at H
   obtain rfl := zi H
   have hn26 := zn NB332_333
   have hz27 := zc4 BK332.out
   have hz28 := zc4 BK333.out
   go_wp2_with (first | (go_at_call 93; (refine (impl_SameVal.calls k a0_0 a0_1 a0_2 _ _ l0_3 a0_0 a0_1 (⟨#[]⟩ : ByteArray) _ _ ([] : List Int) t335 _ ?side1 ?side2 ?side3 ?side4 A25.out).mono ?_); (case side1 => exact Kd.C_below HR0_3.out zq0); (case side2 => exact HC0_3.out); (case side3 => exact Kd.C_nil _ _); (case side4 => exact Nat.le_refl _); rintro e w29 ⟨rfl, hb⟩; replace BK332 := zA (blk_below (g := gb332) (o := .cells #[.int .i64 a0_0, .int .i64 a0_1, .string a0_2, .slice A0_3 l0_3.length c0_3] 76 (0, 0)) (zbf BK332.out) hb); replace BK333 := zA (blk_below (g := gb333) (o := .cells #[.int .i64 a0_0, .int .i64 a0_1, .string (⟨#[]⟩ : ByteArray), .slice none 0 0] 76 (0, 0)) (zbp BK333.out) hb); replace HB := zA (below_step zq0 hb); clear hb))
   go_ret
   exact ⟨zq1, zq0⟩
  obtain rfl := zi H
  go_wp2
  go_ret
  exact ⟨zq1, zq0⟩
 have c14b0 : (a0_0 == 2) = false := beq_eq_false_iff_ne.mpr c14
 have c14b1 : (a0_0 != 2) = true := bne_iff_ne.mpr c14
 go_upto_region 8 with fail
 replace H := zP H; rcases H with ⟨c31, H⟩ | ⟨c31, H⟩
 ·have c31b0 : (a0_0 == 4) = true := beq_iff_eq.mpr c31
  have c31b1 : (a0_0 != 4) = false := bne_eq_false_iff_eq.mpr c31
  clear c31
  go_upto_region 9 with fail
  have hn34 := zn NB332_333
  have hz35 := zc4 BK332.out
  have hz36 := zc4 BK333.out
  go_upto_region 10 with fail
  have hn38 := zn NB332_333
  have hz39 := zc4 BK332.out
  go_upto_region 17 with fail
  replace H := zP H; rcases H with ⟨c40, H⟩ | ⟨c40, H⟩
  ·have c40b0 : decide ((a0_2.size : Int) ≤ 20) = true := decide_eq_true c40
   have c40b1 : decide (a0_2.size ≤ 20) = true := decide_eq_true zq183
   clear c40
   replace H := zB H; obtain ⟨t336, A41, H⟩ := H
   try dsimp only at H
   obtain rfl := zi H
   have hn42 := zn NB332_333
   have hz43 := zc4 BK332.out
   have hz44 := zc4 BK333.out
   go_wp2_with (first | (go_at_call 93; (refine (impl_SameVal.calls k a0_0 a0_1 a0_2 _ _ l0_3 a0_0 0 a0_2 _ _ ([] : List Int) t336 _ ?side1 ?side2 ?side3 ?side4 A41.out).mono ?_); (case side1 => exact Kd.C_below HR0_3.out zq0); (case side2 => exact HC0_3.out); (case side3 => exact Kd.C_nil _ _); (case side4 => exact Nat.le_refl _); rintro e w45 ⟨rfl, hb⟩; replace BK332 := zA (blk_below (g := gb332) (o := .cells #[.int .i64 a0_0, .int .i64 a0_1, .string a0_2, .slice A0_3 l0_3.length c0_3] 76 (0, 0)) (zbf BK332.out) hb); replace BK333 := zA (blk_below (g := gb333) (o := .cells #[.int .i64 a0_0, .int .i64 0, .string a0_2, .slice none 0 0] 76 (0, 0)) (zbp BK333.out) hb); replace HB := zA (below_step zq0 hb); clear hb))
   go_ret
   exact ⟨zq1, zq0⟩
  have c40b0 : decide ((a0_2.size : Int) ≤ 20) = false := decide_eq_false c40
  have c40b1 : decide (a0_2.size ≤ 20) = false := decide_eq_false zq183
  clear c40
  obtain rfl := zi H
  go_wp2
  go_ret
  exact ⟨zq1, zq0⟩
 have c31b0 : (a0_0 == 4) = false := beq_eq_false_iff_ne.mpr c31
 have c31b1 : (a0_0 != 4) = true := bne_iff_ne.mpr c31
 go_upto_region 11 with fail
 replace H := zP H; rcases H with ⟨c47, H⟩ | ⟨c47, H⟩
 ·have c47b0 : (a0_0 == 6) = true := beq_iff_eq.mpr c47
  have c47b1 : (a0_0 != 6) = false := bne_eq_false_iff_eq.mpr c47
  clear c47
  go_upto_region 12 with fail
  have hn50 := zn NB332_333
  have hz51 := zc4 BK332.out
  have hz52 := zc4 BK333.out
  go_upto_region 13 with fail
  replace H := zB H; obtain ⟨t337, A53, H⟩ := H
  try dsimp only at H
  have hn55 := zn NB332_333
  have hz56 := zc4 BK332.out
  go_upto_region 17 with (first | ((with_reducible refine zg123 rfl ?_); refine zl123 (some 34) #[.slice A0_3 l0_3.length c0_3] ?_; (with_reducible refine (impl_OidOk.calls k _ _ l0_3 t337 _ ?side1 ?side2 A53.out).mono ?_); (case side1 => exact Kd.C_below HR0_3.out zq0); (case side2 => exact HC0_3.out); rintro e w' ⟨rfl, ⟨nd, rfl⟩⟩; refine ⟨_, rfl, ?_⟩))
  (try simp only [zvs])
  replace H := zE H; rcases H with ⟨rfl, H⟩ | ⟨rfl, H⟩
  ·replace H := zB H; obtain ⟨t338, A58, H⟩ := H
   try dsimp only at H
   obtain rfl := zi H
   have hn59 := zn NB332_333
   have hz60 := zc4 BK332.out
   have hz61 := zc4 BK333.out
   go_wp2_with (first | (go_at_call 93; (with_reducible refine (impl_SameVal.calls k a0_0 a0_1 a0_2 _ _ l0_3 a0_0 0 (⟨#[]⟩ : ByteArray) _ _ l0_3 t338 _ ?side1 ?side2 ?side3 ?side4 A58.out).mono ?_); (case side1 => exact Kd.C_below HR0_3.out zq0); (case side2 => exact HC0_3.out); (case side3 => exact Kd.C_below HR0_3.out zq0); (case side4 => exact HC0_3.out); rintro e w62 ⟨rfl, hb⟩; replace BK332 := zA (blk_below (g := gb332) (o := .cells #[.int .i64 a0_0, .int .i64 a0_1, .string a0_2, .slice A0_3 l0_3.length c0_3] 76 (0, 0)) (zbf BK332.out) hb); replace BK333 := zA (blk_below (g := gb333) (o := .cells #[.int .i64 a0_0, .int .i64 0, .string (⟨#[]⟩ : ByteArray), .slice A0_3 l0_3.length c0_3] 76 (0, 0)) (zbp BK333.out) hb); replace HB := zA (below_step zq0 hb); clear hb))
   go_ret
   exact ⟨zq1, zq0⟩
  obtain rfl := zi H
  go_wp2
  go_ret
  exact ⟨zq1, zq0⟩
 have c47b0 : (a0_0 == 6) = false := beq_eq_false_iff_ne.mpr c47
 have c47b1 : (a0_0 != 6) = true := bne_iff_ne.mpr c47
 go_upto_region 14 with fail
 replace H := zP H; rcases H with ⟨c64, H⟩ | ⟨c64, H⟩
 ·have c64b0 : (a0_0 == 5) = true := beq_iff_eq.mpr c64
  have c64b1 : (a0_0 != 5) = false := bne_eq_false_iff_eq.mpr c64
  clear c64
  go_upto_region 17 with fail
  replace H := zB H; obtain ⟨t339, A66, H⟩ := H
  try dsimp only at H
  obtain rfl := zi H
  have hn67 := zn NB332_333
  have hz68 := zc4 BK332.out
  have hz69 := zc4 BK333.out
  go_wp2_with (first | (go_at_call 93; (refine (impl_SameVal.calls k a0_0 a0_1 a0_2 _ _ l0_3 a0_0 0 (⟨#[]⟩ : ByteArray) _ _ ([] : List Int) t339 _ ?side1 ?side2 ?side3 ?side4 A66.out).mono ?_); (case side1 => exact Kd.C_below HR0_3.out zq0); (case side2 => exact HC0_3.out); (case side3 => exact Kd.C_nil _ _); (case side4 => exact Nat.le_refl _); rintro e w70 ⟨rfl, hb⟩; replace BK332 := zA (blk_below (g := gb332) (o := .cells #[.int .i64 a0_0, .int .i64 a0_1, .string a0_2, .slice A0_3 l0_3.length c0_3] 76 (0, 0)) (zbf BK332.out) hb); replace BK333 := zA (blk_below (g := gb333) (o := .cells #[.int .i64 a0_0, .int .i64 0, .string (⟨#[]⟩ : ByteArray), .slice none 0 0] 76 (0, 0)) (zbp BK333.out) hb); replace HB := zA (below_step zq0 hb); clear hb))
  go_ret
  exact ⟨zq1, zq0⟩
 have c64b0 : (a0_0 == 5) = false := beq_eq_false_iff_ne.mpr c64
 have c64b1 : (a0_0 != 5) = true := bne_iff_ne.mpr c64
 go_upto_region 15 with fail
 replace H := zP H; rcases H with ⟨c72, H⟩ | ⟨c72, H⟩
 ·have c72b0 : (a0_0 == 128) = true := beq_iff_eq.mpr c72
  have c72b1 : (a0_0 != 128) = false := bne_eq_false_iff_eq.mpr c72
  clear c72
  go_upto_region 17 with fail
  replace H := zB H; obtain ⟨t340, A74, H⟩ := H
  try dsimp only at H
  obtain rfl := zi H
  have hn75 := zn NB332_333
  have hz76 := zc4 BK332.out
  have hz77 := zc4 BK333.out
  go_wp2_with (first | (go_at_call 93; (refine (impl_SameVal.calls k a0_0 a0_1 a0_2 _ _ l0_3 a0_0 0 (⟨#[]⟩ : ByteArray) _ _ ([] : List Int) t340 _ ?side1 ?side2 ?side3 ?side4 A74.out).mono ?_); (case side1 => exact Kd.C_below HR0_3.out zq0); (case side2 => exact HC0_3.out); (case side3 => exact Kd.C_nil _ _); (case side4 => exact Nat.le_refl _); rintro e w78 ⟨rfl, hb⟩; replace BK332 := zA (blk_below (g := gb332) (o := .cells #[.int .i64 a0_0, .int .i64 a0_1, .string a0_2, .slice A0_3 l0_3.length c0_3] 76 (0, 0)) (zbf BK332.out) hb); replace BK333 := zA (blk_below (g := gb333) (o := .cells #[.int .i64 a0_0, .int .i64 0, .string (⟨#[]⟩ : ByteArray), .slice none 0 0] 76 (0, 0)) (zbp BK333.out) hb); replace HB := zA (below_step zq0 hb); clear hb))
  go_ret
  exact ⟨zq1, zq0⟩
 have c72b0 : (a0_0 == 128) = false := beq_eq_false_iff_ne.mpr c72
 have c72b1 : (a0_0 != 128) = true := bne_iff_ne.mpr c72
 go_upto_region 16 with fail
 replace H := zP H; rcases H with ⟨c80, H⟩ | ⟨c80, H⟩
 ·have c80b0 : (a0_0 == 130) = true := beq_iff_eq.mpr c80
  have c80b1 : (a0_0 != 130) = false := bne_eq_false_iff_eq.mpr c80
  clear c80
  go_upto_region 17 with fail
  replace H := zB H; obtain ⟨t341, A82, H⟩ := H
  try dsimp only at H
  obtain rfl := zi H
  have hn83 := zn NB332_333
  have hz84 := zc4 BK332.out
  have hz85 := zc4 BK333.out
  go_wp2_with (first | (go_at_call 93; (refine (impl_SameVal.calls k a0_0 a0_1 a0_2 _ _ l0_3 a0_0 0 (⟨#[]⟩ : ByteArray) _ _ ([] : List Int) t341 _ ?side1 ?side2 ?side3 ?side4 A82.out).mono ?_); (case side1 => exact Kd.C_below HR0_3.out zq0); (case side2 => exact HC0_3.out); (case side3 => exact Kd.C_nil _ _); (case side4 => exact Nat.le_refl _); rintro e w86 ⟨rfl, hb⟩; replace BK332 := zA (blk_below (g := gb332) (o := .cells #[.int .i64 a0_0, .int .i64 a0_1, .string a0_2, .slice A0_3 l0_3.length c0_3] 76 (0, 0)) (zbf BK332.out) hb); replace BK333 := zA (blk_below (g := gb333) (o := .cells #[.int .i64 a0_0, .int .i64 0, .string (⟨#[]⟩ : ByteArray), .slice none 0 0] 76 (0, 0)) (zbp BK333.out) hb); replace HB := zA (below_step zq0 hb); clear hb))
  go_ret
  exact ⟨zq1, zq0⟩
 have c80b0 : (a0_0 == 130) = false := beq_eq_false_iff_ne.mpr c80
 have c80b1 : (a0_0 != 130) = true := bne_iff_ne.mpr c80
 go_upto_region 4 with fail
 obtain rfl := zi H
 go_wp2
 go_ret
 exact ⟨zq1, zq0⟩

end Go.Proofs.Ytkcgghgkmgbphaa.PFnMsgs
