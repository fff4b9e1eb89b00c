-- WRITTEN BY a turned copy of the kit's printer (wip/patch_print.py), for this claim
import Derived.Test.YtkcgghgkmgbphaaPFnValsx0
import Derived.Test.YtkcgghgkmgbphaaPFnValsx1
import Derived.Test.YtkcgghgkmgbphaaPFnValsx2
import Derived.Test.YtkcgghgkmgbphaaPFnValsx4
import Derived.Test.YtkcgghgkmgbphaaPFnValsx6
import Derived.Test.YtkcgghgkmgbphaaPFnValsx7
import Derived.Test.YtkcgghgkmgbphaaPFnValsx9
import Derived.Test.YtkcgghgkmgbphaaPFnValsx11
import Derived.Test.YtkcgghgkmgbphaaPFnValsx14
import Derived.Test.YtkcgghgkmgbphaaPFnValsx15
namespace Go.Proofs.Ytkcgghgkmgbphaa.PFnVals
open Go.RowKit Go.Proofs.YtkcgghgkmgbphaaW.PrintWords Go.Proofs.YtkcgghgkmgbphaaW.PrintLast Go.Proofs.YtkcgghgkmgbphaaW.PrintMore
attribute [local go_sem] max2_int min2_int max_two min_two max_three min_three max_four min_four   -- for this text's walks alone
set_option linter.unusedVariables false
set_option linter.unusedSimpArgs false

attribute [local go_sem] cell_setCell_m
/-! ### laws_FnVals: function 12 -/
def laws_FnVals.j0 : Nat → List Int → List Int → List Int → Bool → Int → Int → ByteArray → List Int → Option (Bool)
 | 0, _, _, _, _, _, _, _, _ => none
 | k + 1, x0, x3, x5, x69, x713000, x713001, x713002, x713003 => if x69 = true then (none) else ((spec_ValOk.f k x713000 x713001 x713002 x713003).bind fun t750 => (if t750 = true then ((impl_GetVal.f k x5 (x3.length : Int)).bind fun bt753 => ((spec_DrawSameVal.f k x0).bind fun bt762 => (if bt753.2.2.2.2.2 = true then ((impl_SameVal.f k bt753.1 bt753.2.1 bt753.2.2.1 bt753.2.2.2.1 x713000 x713001 x713002 x713003).bind fun t776 => (if t776 = true then (if bt753.2.2.2.2.1 = (x5.length : Int) then ((impl_ValOk.f k x713000 x713001 x713002 x713003).bind fun t777 => (if t777 = true then ((impl_SameVal.f k bt762.1 bt762.2.1 bt762.2.2.1 bt762.2.2.2.1 bt762.2.2.2.2.1 bt762.2.2.2.2.2.1 bt762.2.2.2.2.2.2.1 bt762.2.2.2.2.2.2.2).bind fun t778 => ((spec_SameVal.f k bt762.1 bt762.2.1 bt762.2.2.1 bt762.2.2.2.1 bt762.2.2.2.2.1 bt762.2.2.2.2.2.1 bt762.2.2.2.2.2.2.1 bt762.2.2.2.2.2.2.2).bind fun t779 => (some (t778 == t779)))) else (none))) else (none)) else (none))) else (none)))) else ((laws_sameBytes.f k x5 x3).bind fun t751 => (if t751 = true then ((impl_ValOk.f k x713000 x713001 x713002 x713003).bind fun t752 => (some (!t752))) else (none)))))
def laws_FnVals.f (k : Nat) (l0 : List Int) : Option (Bool) := (laws_big.f l0).bind fun t702 => (if t702 = true then (some true) else ((spec_DrawPutVal.f k l0).bind fun bt703 => ((impl_PutVal.f k bt703.1 bt703.2.1 bt703.2.2.1 bt703.2.2.2.1 bt703.2.2.2.2).bind fun t713 => ((spec_DrawGetVal.f k l0).bind fun bt716 => ((impl_GetVal.f k bt716.1 bt716.2).bind fun bt720 => ((spec_GetVal.f k bt716.1 bt716.2).bind fun bt729 => (if (bt720.2.2.2.2.2 != bt729.2.2.2.2.2) = true then (laws_FnVals.j0 k l0 bt703.1 t713 true bt703.2.1 bt703.2.2.1 bt703.2.2.2.1 bt703.2.2.2.2) else (if bt720.2.2.2.2.2 = true then ((impl_ValOk.f k bt720.1 bt720.2.1 bt720.2.2.1 bt720.2.2.2.1).bind fun t738 => (if t738 = true then ((impl_PutVal.f k (([] : List Int)) bt720.1 bt720.2.1 bt720.2.2.1 bt720.2.2.2.1).bind fun t742 => (if 0 ≤ bt716.2 then (if bt716.2 ≤ bt720.2.2.2.2.1 then (if bt720.2.2.2.2.1 ≤ (bt716.1.length : Int) then ((laws_sameBytes.f k t742 ((bt716.1.take (bt720.2.2.2.2.1 : Int).toNat).drop (bt716.2 : Int).toNat)).bind fun t749 => (laws_FnVals.j0 k l0 bt703.1 t713 (!t749) bt703.2.1 bt703.2.2.1 bt703.2.2.2.1 bt703.2.2.2.2)) else (none)) else (none)) else (none))) else (laws_FnVals.j0 k l0 bt703.1 t713 true bt703.2.1 bt703.2.2.1 bt703.2.2.2.1 bt703.2.2.2.2))) else (laws_FnVals.j0 k l0 bt703.1 t713 false bt703.2.1 bt703.2.2.1 bt703.2.2.2.1 bt703.2.2.2.2)))))))))
theorem laws_FnVals.mono_l : ∀ k, (∀ y0 y1 y2 y3 y4 y5 y6 y7, LeO (laws_FnVals.j0 k y0 y1 y2 y3 y4 y5 y6 y7) (laws_FnVals.j0 (k + 1) y0 y1 y2 y3 y4 y5 y6 y7))
 | 0 => fun _ _ _ _ _ _ _ _ r h => by simp [laws_FnVals.j0] at h
 | k + 1 => by
  have ih0 := laws_FnVals.mono_l k
  ·intro y0 y1 y2 y3 y4 y5 y6 y7
   unfold laws_FnVals.j0
   have m0_ := @impl_GetVal.mono
   have m1_ := @impl_PutVal.mono
   have m2_ := @impl_SameVal.mono
   have m3_ := @impl_ValOk.mono
   have m4_ := @laws_sameBytes.mono
   have m5_ := @spec_DrawGetVal.mono
   have m6_ := @spec_DrawPutVal.mono
   have m7_ := @spec_DrawSameVal.mono
   have m8_ := @spec_GetVal.mono
   have m9_ := @spec_SameVal.mono
   have m10_ := @spec_ValOk.mono
   exact zR
theorem laws_FnVals.mono : ∀ a0 k, LeO (laws_FnVals.f k a0) (laws_FnVals.f (k + 1) a0) := by
 intro a0 k
 have ih0 := laws_FnVals.mono_l k
 unfold laws_FnVals.f
 have m0_ := @impl_GetVal.mono
 have m1_ := @impl_PutVal.mono
 have m2_ := @impl_SameVal.mono
 have m3_ := @impl_ValOk.mono
 have m4_ := @laws_sameBytes.mono
 have m5_ := @spec_DrawGetVal.mono
 have m6_ := @spec_DrawPutVal.mono
 have m7_ := @spec_DrawSameVal.mono
 have m8_ := @spec_GetVal.mono
 have m9_ := @spec_SameVal.mono
 have m10_ := @spec_ValOk.mono
 exact zR
def laws_FnVals.T8 : Bool × List (List Nat × List Nat) := (true, [([], []), ([], []), ([0, 1], [0, 1]), ([2], [2]), ([3], [3]), ([4, 3, 3], [3, 4]), ([5], [5]), ([6, 5, 5], [5, 6]), ([7, 5], [5, 7]), ([8, 7, 5], [5, 8]), ([9], [9]), ([9], [9]), ([10, 11, 9, 9], [9, 10, 11]), ([9], [9]), ([9], [9]), ([9], [9]), ([13, 14, 15, 9], [9, 13, 14, 15]), ([12, 16, 12, 9], [9, 12, 16]), ([17, 9], [9, 17]), ([9, 18, 5], [5, 9, 18]), ([5, 19, 3], [3, 5, 19]), ([3, 20], [3, 20])])
def laws_FnVals.B8 : List Nat := [0, 0, 3, 7, 15, 31, 63, 127, 255, 511, 1023, 1023, 4095, 1023, 1023, 1023, 58367, 131071, 262143, 524287, 1048575, 2097151]
theorem laws_FnVals.tab8 : rtab .any (opsOf Try.f12 8) = laws_FnVals.T8 := by kernel_rfl
theorem laws_FnVals.bits8 : waitsOk laws_FnVals.T8.2 laws_FnVals.B8 = true := by kernel_rfl
def laws_FnVals.T14 : Bool × List (List Nat × List Nat) := (true, [([], []), ([0], [0]), ([1], [1]), ([1], [1]), ([2, 3, 1, 1], [1, 2, 3]), ([1, 4], [1, 4]), ([5, 4], [5]), ([6], [6]), ([6], [6]), ([8, 6], [6, 8]), ([7, 9, 6], [6, 7, 9]), ([6, 10], [6, 10]), ([11, 6], [11]), ([12], [12]), ([13, 12, 12], [12, 13]), ([12, 14], [12, 14]), ([15, 14], [15]), ([16], [16]), ([16], [16]), ([17, 18, 16, 16], [16, 17, 18]), ([16], [16]), ([16], [16]), ([20, 21, 19, 16], [16, 20, 21]), ([19, 22, 16], [16, 19, 22]), ([16, 23], [16, 23]), ([24, 22, 0, 1, 2, 3, 4, 5, 6, 7, 8, 9, 10, 11, 12, 13, 14, 15, 16, 17, 18, 19, 20, 21, 22, 23, 24], [24])])
def laws_FnVals.B14 : List Nat := [0, 1, 3, 3, 15, 31, 63, 127, 127, 383, 1023, 2047, 4095, 8191, 16383, 32767, 65535, 131071, 131071, 524287, 131071, 131071, 4194303, 8388607, 16777215, 33554431]
theorem laws_FnVals.tab14 : rtab .any (opsOf Try.f12 14) = laws_FnVals.T14 := by kernel_rfl
theorem laws_FnVals.bits14 : waitsOk laws_FnVals.T14.2 laws_FnVals.B14 = true := by kernel_rfl
set_option maxHeartbeats 8000000 in
set_option maxRecDepth 100000 in
theorem laws_FnVals.calls (k : Nat) (A0 : Option Addr) (c0 : Nat) (l0 : List Int) (r : Bool) (w : World) (hr0 : Kd.C (Kd.int .u8) w A0 l0.length l0) (hc0 : l0.length ≤ c0) (h : laws_FnVals.f k l0 = some r) :
  Calls Try.prog 12 #[.slice A0 l0.length c0] w fun e w' => e = .returned (.bool r) ∧ Below w.heap.size w w' := by
 have hu76 := Try.underlying76
 have HR0 := zA hr0
 have HC0 := zA hc0
 clear hr0 hc0
 have HB := zA (Below.refl w.heap.size w)
 unfold laws_FnVals.f at h
 have H := h
 clear h
 have HC2 := zA H
 clear H
 go_enter Try.func12, Try.ntmps12
 go_upto_region 0 with (fail)
 have H := HC2.out
 clear HC2
 have HC3 := zA H
 clear H
 go_upto_region 1 with (fail)
 have H := HC3.out
 clear HC3
 obtain ⟨t702, A4, H⟩ := zB H
 try dsimp only at H
 by_cases c5 : t702 = true
 ·subst c5
  rw [if_pos rfl] at H
  have HC6 := zA H
  clear H
  go_upto_region 2 with (first | ((with_reducible refine gate_callee (f := 18) rfl ?_); refine goesL_ (some 20) rfl rfl Try.func18 (by kernel_rfl) rfl #[.slice A0 l0.length c0] rfl zq1 ?_; (with_reducible refine (laws_big.calls _ _ l0 true _ ?side1 ?side2 A4.out).mono ?_); (case side1 => repeat (first | exact (Kd.C_below HR0.out HB.out) | (with_reducible refine Kd.C_alloc ?_ _) | (with_reducible refine Kd.C_drewN ?_ _) | (with_reducible refine Kd.C_drew ?_))); (case side2 => exact HC0.out); rintro e w' ⟨rfl, ⟨nd, rfl⟩⟩; refine ⟨_, rfl, ?_⟩))
  (try simp only [Act.put, List.setIfInBounds_toArray, List.set_cons_zero, List.set_cons_succ])
  have H := HC6.out
  clear HC6
  obtain rfl := Option.some.inj H
  go_wp2
  go_ret
  exact ⟨zq2, zq0⟩
 ·replace c5 := Bool.eq_false_iff.mpr c5
  subst c5
  rw [if_neg zF] at H
  have HC7 := zA H
  clear H
  go_upto_region 3 with (first | ((with_reducible refine gate_callee (f := 18) rfl ?_); refine goesL_ (some 20) rfl rfl Try.func18 (by kernel_rfl) rfl #[.slice A0 l0.length c0] rfl zq1 ?_; (with_reducible refine (laws_big.calls _ _ l0 false _ ?side1 ?side2 A4.out).mono ?_); (case side1 => repeat (first | exact (Kd.C_below HR0.out HB.out) | (with_reducible refine Kd.C_alloc ?_ _) | (with_reducible refine Kd.C_drewN ?_ _) | (with_reducible refine Kd.C_drew ?_))); (case side2 => exact HC0.out); rintro e w' ⟨rfl, ⟨nd, rfl⟩⟩; refine ⟨_, rfl, ?_⟩))
  (try simp only [Act.put, List.setIfInBounds_toArray, List.set_cons_zero, List.set_cons_succ])
  have H := HC7.out
  clear HC7
  obtain ⟨⟨t703, t706, t707, t708, t709⟩, A8, H⟩ := zB H
  try dsimp only at H
  have HC9 := zA H
  clear H
  go_upto_region 4 with (first | ((with_reducible refine gate_callee (f := 86) rfl ?_); refine goesL_ (some 23) rfl rfl Try.func86 (by kernel_rfl) rfl #[.slice A0 l0.length c0] rfl zq1 ?_; (with_reducible refine (spec_DrawPutVal.calls k _ _ l0 t703 t706 t707 t708 t709 _ ?side1 ?side2 A8.out).mono ?_); (case side1 => repeat (first | exact (Kd.C_below HR0.out HB.out) | (with_reducible refine Kd.C_alloc ?_ _) | (with_reducible refine Kd.C_drewN ?_ _) | (with_reducible refine Kd.C_drew ?_))); (case side2 => exact HC0.out); rintro e w10 ⟨v704, v710, rfl, ho0, ho1, hb⟩; refine ⟨_, rfl, ?_⟩; have HO705 := zA (Kd.R_lower ho0 (below_size zq0)); have HO711 := zA (Kd.R_lower ho1 (below_size zq0)); replace HB := zA (below_step zq0 hb); clear hb ho0 ho1) | ((with_reducible refine gate_dst (N := 4) rfl ?_); (try (refine gate_guard zq84 ?_; dsimp only)); refine box_event ?hg (N := 4) ?hd (cs := #[.int .i64 0, .int .i64 0, .string (⟨#[]⟩ : ByteArray), .slice none 0 0]) (t := 76) ?hr ?_; (case hd => rfl); (case hg => rfl); (case hr => first | (go_simp; done) | (go_simp; rfl)); intro gb712 hg w11 hbox hb; replace HO705 := zA (Kd.R_below zq66 hb); replace HO711 := zA (Kd.R_below zq50 hb); have BK712 := zA (hbox); have GW712 := zA ((zq11 : w.heap.size ≤ gb712)); have GE712 := zA ((zq11 : w.heap.size ≤ gb712)); replace HB := zA (below_step zq0 hb); clear hb hbox hg; have hcz12_0 : w11.cell? ⟨gb712, 0, none⟩ = some (.int .i64 0) := (blk_cell BK712.out 0).trans rfl; have hcz12_1 : w11.cell? ⟨gb712, 1, none⟩ = some (.int .i64 0) := (blk_cell BK712.out 1).trans rfl; have hcz12_2 : w11.cell? ⟨gb712, 2, none⟩ = some (.string (⟨#[]⟩ : ByteArray)) := (blk_cell BK712.out 2).trans rfl; have hcz12_3 : w11.cell? ⟨gb712, 3, none⟩ = some (.slice none 0 0) := (blk_cell BK712.out 3).trans rfl; have hfz12_0 := blk_frozen BK712.out 0; have hfz12_1 := blk_frozen BK712.out 1; have hfz12_2 := blk_frozen BK712.out 2; have hfz12_3 := blk_frozen BK712.out 3; obtain ⟨Ao13, co13, eo13⟩ := Kd.R_slice HO711.out; subst eo13))
  (try simp only [Act.put, List.setIfInBounds_toArray, List.set_cons_zero, List.set_cons_succ])
  have H := HC9.out
  clear HC9
  obtain ⟨t713, A14, H⟩ := zB H
  try dsimp only at H
  have HC15 := zA H
  clear H
  have hcz16_0 : w11.cell? ⟨gb712, 0, none⟩ = some (.int .i64 0) := (blk_cell BK712.out 0).trans rfl
  have hcz16_1 : w11.cell? ⟨gb712, 1, none⟩ = some (.int .i64 0) := (blk_cell BK712.out 1).trans rfl
  have hcz16_2 : w11.cell? ⟨gb712, 2, none⟩ = some (.string (⟨#[]⟩ : ByteArray)) := (blk_cell BK712.out 2).trans rfl
  have hcz16_3 : w11.cell? ⟨gb712, 3, none⟩ = some (.slice none 0 0) := (blk_cell BK712.out 3).trans rfl
  have hfz16_0 := blk_frozen BK712.out 0
  have hfz16_1 := blk_frozen BK712.out 1
  have hfz16_2 := blk_frozen BK712.out 2
  have hfz16_3 := blk_frozen BK712.out 3
  obtain ⟨Ao17, co17, eo17⟩ := Kd.R_slice HO705.out
  subst eo17
  go_upto_region 5 with (first | ((with_reducible refine gate_callee (f := 70) rfl ?_); refine goesL_ (some 28) rfl rfl Try.func70 (by kernel_rfl) rfl #[.slice Ao17 t703.length co17, .agg #[.int .i64 t706, .int .i64 t707, .string t708, .slice Ao13 t709.length co13]] rfl zq1 ?_; (with_reducible refine (impl_PutVal.calls k _ _ t703 t706 t707 t708 _ _ t709 t713 _ ?side1 ?side2 ?side3 ?side4 A14.out).mono ?_); (case side1 => refine (Kd.R_reads' (e := 5) (base := w.heap.size) (ok := fun k_ => True) (n := t703.length) (c := co17) ?_).2.2; exact zq79); (case side2 => exact (Kd.R_reads' HO705.out).2.1); (case side3 => refine (Kd.R_reads' (e := 3) (base := w.heap.size) (ok := fun k_ => True) (n := t709.length) (c := co13) ?_).2.2; exact zq136); (case side4 => exact (Kd.R_reads' HO711.out).2.1); rintro e w18 ⟨v714, rfl, ho0, hb⟩; refine ⟨_, rfl, ?_⟩; replace HO711 := zA (Kd.R_below zq136 hb); have HO715 := zA (Kd.R_lower (Kd.R_new' ho0 (Kd.R_lt zq79)) (below_size zq56)); replace HO705 := zA (Kd.R_elder' zq79 (Kd.R_base ho0) hb); replace BK712 := zA (blk_below (g := gb712) (o := .cells #[.int .i64 t706, .int .i64 t707, .string t708, .slice Ao13 t709.length co13] 76 (0, 0)) (by (with_reducible repeat (first | refine blk_drewN ?_ _ | refine blk_drew ?_ | refine blk_alloc ?_ _)); refine blk_put (cs := #[.int .i64 t706, .int .i64 t707, .string t708, .slice none 0 0]) ?_ 3 _ rfl; (with_reducible repeat (first | refine blk_drewN ?_ _ | refine blk_drew ?_ | refine blk_alloc ?_ _)); refine blk_put (cs := #[.int .i64 t706, .int .i64 t707, .string (⟨#[]⟩ : ByteArray), .slice none 0 0]) ?_ 2 _ rfl; (with_reducible repeat (first | refine blk_drewN ?_ _ | refine blk_drew ?_ | refine blk_alloc ?_ _)); refine blk_put (cs := #[.int .i64 t706, .int .i64 0, .string (⟨#[]⟩ : ByteArray), .slice none 0 0]) ?_ 1 _ rfl; (with_reducible repeat (first | refine blk_drewN ?_ _ | refine blk_drew ?_ | refine blk_alloc ?_ _)); refine blk_put (cs := #[.int .i64 0, .int .i64 0, .string (⟨#[]⟩ : ByteArray), .slice none 0 0]) ?_ 0 _ rfl; (with_reducible repeat (first | refine blk_drewN ?_ _ | refine blk_drew ?_ | refine blk_alloc ?_ _)); exact BK712.out) hb); replace HB := zA (below_step zq56 hb); clear hb ho0))
  (try simp only [Act.put, List.setIfInBounds_toArray, List.set_cons_zero, List.set_cons_succ])
  have H := HC15.out
  clear HC15
  obtain ⟨⟨t716, t717⟩, A19, H⟩ := zB H
  try dsimp only at H
  have HC20 := zA H
  clear H
  go_upto_region 6 with (first | ((with_reducible refine gate_callee (f := 87) rfl ?_); refine goesL_ (some 31) rfl rfl Try.func87 (by kernel_rfl) rfl #[.slice A0 l0.length c0] rfl zq1 ?_; (with_reducible refine (spec_DrawGetVal.calls k _ _ l0 t716 t717 _ ?side1 ?side2 A19.out).mono ?_); (case side1 => repeat (first | exact (Kd.C_below HR0.out HB.out) | (with_reducible refine Kd.C_alloc ?_ _) | (with_reducible refine Kd.C_drewN ?_ _) | (with_reducible refine Kd.C_drew ?_))); (case side2 => exact HC0.out); rintro e w21 ⟨v718, rfl, ho0, hb⟩; refine ⟨_, rfl, ?_⟩; replace HO711 := zA (Kd.R_below zq50 hb); have HO719 := zA (Kd.R_lower (Kd.R_new' (Kd.R_new' ho0 (Kd.R_lt zq66)) (Kd.R_lt zq72)) (below_size zq56)); replace HO705 := zA (Kd.R_elder' zq66 (Kd.R_base ho0) hb); replace HO715 := zA (Kd.R_elder' zq72 (Kd.R_base ho0) hb); replace BK712 := zA (blk_below (g := gb712) (o := .cells #[.int .i64 t706, .int .i64 t707, .string t708, .slice Ao13 t709.length co13] 76 (0, 0)) zq16 hb); replace HB := zA (below_step zq56 hb); clear hb ho0))
  (try simp only [Act.put, List.setIfInBounds_toArray, List.set_cons_zero, List.set_cons_succ])
  have H := HC20.out
  clear HC20
  obtain ⟨⟨t720, t721, t722, t723, t726, t727⟩, A22, H⟩ := zB H
  try dsimp only at H
  have HC23 := zA H
  clear H
  obtain ⟨Ao24, co24, eo24⟩ := Kd.R_slice HO719.out
  subst eo24
  go_upto_region 7 with (first | ((with_reducible refine gate_callee (f := 88) rfl ?_); refine goesL_ (some 37) rfl rfl Try.func88 (by kernel_rfl) rfl #[.slice Ao24 t716.length co24, .int .i64 t717] rfl zq1 ?_; (with_reducible refine (impl_GetVal.calls k _ _ t716 t717 t720 t721 t722 t723 t726 t727 _ ?side1 ?side2 A22.out).mono ?_); (case side1 => repeat (first | exact (Kd.R_reads' HO719.out).2.2 | (with_reducible refine Kd.C_alloc ?_ _) | (with_reducible refine Kd.C_drewN ?_ _) | (with_reducible refine Kd.C_drew ?_))); (case side2 => exact (Kd.R_reads' HO719.out).2.1); rintro e w25 ⟨v724, rfl, ho0, hb⟩; refine ⟨_, rfl, ?_⟩; replace HO705 := zA (Kd.R_below zq66 hb); replace HO715 := zA (Kd.R_below zq72 hb); replace HO719 := zA (Kd.R_below zq89 hb); have HO725 := zA (Kd.R_lower (Kd.R_new' ho0 (Kd.R_lt zq50)) (below_size zq56)); replace HO711 := zA (Kd.R_elder' zq50 (Kd.R_base ho0) hb); replace BK712 := zA (blk_below (g := gb712) (o := .cells #[.int .i64 t706, .int .i64 t707, .string t708, .slice Ao13 t709.length co13] 76 (0, 0)) zq16 hb); replace HB := zA (below_step zq56 hb); clear hb ho0) | ((with_reducible refine gate_dst (N := 8) rfl ?_); (try (refine gate_guard zq84 ?_; dsimp only)); refine box_event ?hg (N := 8) ?hd (cs := #[.int .i64 0, .int .i64 0, .string (⟨#[]⟩ : ByteArray), .slice none 0 0]) (t := 76) ?hr ?_; (case hd => rfl); (case hg => rfl); (case hr => first | (go_simp; done) | (go_simp; rfl)); intro gb728 hg w26 hbox hb; replace HO705 := zA (Kd.R_below zq66 hb); replace HO711 := zA (Kd.R_below zq50 hb); replace HO715 := zA (Kd.R_below zq72 hb); replace HO719 := zA (Kd.R_below zq89 hb); replace HO725 := zA (Kd.R_below zq85 hb); have BK728 := zA (hbox); have GW728 := zA ((zq197 : w.heap.size ≤ gb728)); have GE728 := zA ((zq197 : w.heap.size ≤ gb728)); replace HB := zA (below_step zq56 hb); have NB712_728 := zA ((zq68 : gb712 ≠ gb728)); have NB728_712 := zA ((zq69 : gb728 ≠ gb712)); replace BK712 := zA (blk_below (g := gb712) (o := .cells #[.int .i64 t706, .int .i64 t707, .string t708, .slice Ao13 t709.length co13] 76 (0, 0)) zq16 hb); clear hb hbox hg; have hnb27 := NB728_712.out; have hnc27 := NB712_728.out; have hcz28_0 : w26.cell? ⟨gb728, 0, none⟩ = some (.int .i64 0) := (blk_cell BK728.out 0).trans rfl; have hcz28_1 : w26.cell? ⟨gb728, 1, none⟩ = some (.int .i64 0) := (blk_cell BK728.out 1).trans rfl; have hcz28_2 : w26.cell? ⟨gb728, 2, none⟩ = some (.string (⟨#[]⟩ : ByteArray)) := (blk_cell BK728.out 2).trans rfl; have hcz28_3 : w26.cell? ⟨gb728, 3, none⟩ = some (.slice none 0 0) := (blk_cell BK728.out 3).trans rfl; have hfz28_0 := blk_frozen BK728.out 0; have hfz28_1 := blk_frozen BK728.out 1; have hfz28_2 := blk_frozen BK728.out 2; have hfz28_3 := blk_frozen BK728.out 3; obtain ⟨Ao29, co29, eo29⟩ := Kd.R_slice HO725.out; subst eo29))
  (try simp only [Act.put, List.setIfInBounds_toArray, List.set_cons_zero, List.set_cons_succ])
  have H := HC23.out
  clear HC23
  obtain ⟨⟨t729, t730, t731, t732, t735, t736⟩, A30, H⟩ := zB H
  try dsimp only at H
  have HC31 := zA H
  clear H
  go_upto_region 8 with (first | ((with_reducible refine gate_callee (f := 89) rfl ?_); refine goesL_ (some 44) rfl rfl Try.func89 (by kernel_rfl) rfl #[.slice Ao24 t716.length co24, .int .i64 t717] rfl zq1 ?_; (with_reducible refine (spec_GetVal.calls k _ _ t716 t717 t729 t730 t731 t732 t735 t736 _ ?side1 ?side2 A30.out).mono ?_); (case side1 => refine (Kd.R_reads' (e := 5) (base := w.heap.size) (ok := fun k_ => ((True ∧ some k_ ≠ (.slice Ao17 t703.length co17 : Value).ownBlock) ∧ some k_ ≠ (v714 : Value).ownBlock)) (n := t716.length) (c := co24) ?_).2.2; exact zq137); (case side2 => exact (Kd.R_reads' HO719.out).2.1); rintro e w32 ⟨v733, rfl, ho0, hb⟩; refine ⟨_, rfl, ?_⟩; replace HO705 := zA (Kd.R_below (by (with_reducible repeat (first | apply Kd.R_alloc | apply Kd.R_drewN | apply Kd.R_drew)); exact (Kd.R_mono (Kd.R_far (p := ⟨gb728, 3, none⟩) (Kd.R_far (p := ⟨gb728, 2, none⟩) (Kd.R_far (p := ⟨gb728, 1, none⟩) (Kd.R_far (p := ⟨gb728, 0, none⟩) (Kd.R_types HO705.out BK728.out zq39) (fun _ hk => hk.2) (.int .i64 t720)) (fun _ hk => hk.2) (.int .i64 t721)) (fun _ hk => hk.2) (.string t722)) (fun _ hk => hk.2) (.slice Ao29 t723.length co29)) (fun _ h_ => h_.1))) hb); replace HO715 := zA (Kd.R_below (by (with_reducible repeat (first | apply Kd.R_alloc | apply Kd.R_drewN | apply Kd.R_drew)); exact (Kd.R_mono (Kd.R_far (p := ⟨gb728, 3, none⟩) (Kd.R_far (p := ⟨gb728, 2, none⟩) (Kd.R_far (p := ⟨gb728, 1, none⟩) (Kd.R_far (p := ⟨gb728, 0, none⟩) (Kd.R_types HO715.out BK728.out zq39) (fun _ hk => hk.2) (.int .i64 t720)) (fun _ hk => hk.2) (.int .i64 t721)) (fun _ hk => hk.2) (.string t722)) (fun _ hk => hk.2) (.slice Ao29 t723.length co29)) (fun _ h_ => h_.1))) hb); replace HO719 := zA (Kd.R_below zq137 hb); have HO734 := zA (Kd.R_lower (Kd.R_new' (Kd.R_new' ho0 (Kd.R_lt zq138)) (Kd.R_lt zq139)) (below_size zq98)); replace HO711 := zA (Kd.R_elder' zq138 (Kd.R_base ho0) hb); replace HO725 := zA (Kd.R_elder' zq139 (Kd.R_base ho0) hb); replace BK712 := zA (blk_below (g := gb712) (o := .cells #[.int .i64 t706, .int .i64 t707, .string t708, .slice Ao13 t709.length co13] 76 (0, 0)) (by (with_reducible repeat (first | refine blk_drewN ?_ _ | refine blk_drew ?_ | refine blk_alloc ?_ _)); refine blk_far ?_ NB712_728.out _; (with_reducible repeat (first | refine blk_drewN ?_ _ | refine blk_drew ?_ | refine blk_alloc ?_ _)); refine blk_far ?_ NB712_728.out _; (with_reducible repeat (first | refine blk_drewN ?_ _ | refine blk_drew ?_ | refine blk_alloc ?_ _)); refine blk_far ?_ NB712_728.out _; (with_reducible repeat (first | refine blk_drewN ?_ _ | refine blk_drew ?_ | refine blk_alloc ?_ _)); refine blk_far ?_ NB712_728.out _; (with_reducible repeat (first | refine blk_drewN ?_ _ | refine blk_drew ?_ | refine blk_alloc ?_ _)); exact BK712.out) hb); replace BK728 := zA (blk_below (g := gb728) (o := .cells #[.int .i64 t720, .int .i64 t721, .string t722, .slice Ao29 t723.length co29] 76 (0, 0)) (by (with_reducible repeat (first | refine blk_drewN ?_ _ | refine blk_drew ?_ | refine blk_alloc ?_ _)); refine blk_put (cs := #[.int .i64 t720, .int .i64 t721, .string t722, .slice none 0 0]) ?_ 3 _ rfl; (with_reducible repeat (first | refine blk_drewN ?_ _ | refine blk_drew ?_ | refine blk_alloc ?_ _)); refine blk_put (cs := #[.int .i64 t720, .int .i64 t721, .string (⟨#[]⟩ : ByteArray), .slice none 0 0]) ?_ 2 _ rfl; (with_reducible repeat (first | refine blk_drewN ?_ _ | refine blk_drew ?_ | refine blk_alloc ?_ _)); refine blk_put (cs := #[.int .i64 t720, .int .i64 0, .string (⟨#[]⟩ : ByteArray), .slice none 0 0]) ?_ 1 _ rfl; (with_reducible repeat (first | refine blk_drewN ?_ _ | refine blk_drew ?_ | refine blk_alloc ?_ _)); refine blk_put (cs := #[.int .i64 0, .int .i64 0, .string (⟨#[]⟩ : ByteArray), .slice none 0 0]) ?_ 0 _ rfl; (with_reducible repeat (first | refine blk_drewN ?_ _ | refine blk_drew ?_ | refine blk_alloc ?_ _)); exact BK728.out) hb); replace HB := zA (below_step zq98 hb); clear hb ho0) | ((with_reducible refine gate_dst (N := 11) rfl ?_); (try (refine gate_guard zq84 ?_; dsimp only)); refine box_event ?hg (N := 11) ?hd (cs := #[.int .i64 0, .int .i64 0, .string (⟨#[]⟩ : ByteArray), .slice none 0 0]) (t := 76) ?hr ?_; (case hd => rfl); (case hg => rfl); (case hr => first | (go_simp; done) | (go_simp; rfl)); intro gb737 hg w33 hbox hb; replace HO705 := zA (Kd.R_below zq66 hb); replace HO711 := zA (Kd.R_below zq50 hb); replace HO715 := zA (Kd.R_below zq72 hb); replace HO719 := zA (Kd.R_below zq89 hb); replace HO725 := zA (Kd.R_below zq85 hb); replace HO734 := zA (Kd.R_below zq90 hb); have BK737 := zA (hbox); have GW737 := zA ((zq184 : w.heap.size ≤ gb737)); have GE737 := zA ((zq184 : w.heap.size ≤ gb737)); replace HB := zA (below_step zq98 hb); have NB712_737 := zA ((zq68 : gb712 ≠ gb737)); have NB737_712 := zA ((zq69 : gb737 ≠ gb712)); replace BK712 := zA (blk_below (g := gb712) (o := .cells #[.int .i64 t706, .int .i64 t707, .string t708, .slice Ao13 t709.length co13] 76 (0, 0)) zq16 hb); have NB728_737 := zA ((zq92 : gb728 ≠ gb737)); have NB737_728 := zA ((zq93 : gb737 ≠ gb728)); replace BK728 := zA (blk_below (g := gb728) (o := .cells #[.int .i64 t720, .int .i64 t721, .string t722, .slice Ao29 t723.length co29] 76 (0, 0)) zq20 hb); clear hb hbox hg; have hnb34 := NB737_712.out; have hnc34 := NB712_737.out; have hnb35 := NB737_728.out; have hnc35 := NB728_737.out; have hcz36_0 : w33.cell? ⟨gb737, 0, none⟩ = some (.int .i64 0) := (blk_cell BK737.out 0).trans rfl; have hcz36_1 : w33.cell? ⟨gb737, 1, none⟩ = some (.int .i64 0) := (blk_cell BK737.out 1).trans rfl; have hcz36_2 : w33.cell? ⟨gb737, 2, none⟩ = some (.string (⟨#[]⟩ : ByteArray)) := (blk_cell BK737.out 2).trans rfl; have hcz36_3 : w33.cell? ⟨gb737, 3, none⟩ = some (.slice none 0 0) := (blk_cell BK737.out 3).trans rfl; have hfz36_0 := blk_frozen BK737.out 0; have hfz36_1 := blk_frozen BK737.out 1; have hfz36_2 := blk_frozen BK737.out 2; have hfz36_3 := blk_frozen BK737.out 3; obtain ⟨Ao37, co37, eo37⟩ := Kd.R_slice HO734.out; subst eo37))
  (try simp only [Act.put, List.setIfInBounds_toArray, List.set_cons_zero, List.set_cons_succ])
  have H := HC31.out
  clear HC31
  have HC38 := zA H
  clear H
  go_upto_region 8 with (fail)
  go_cut [69] (fun v69 wc => ∃ (kq : Nat) (x69_37 : Bool), v69 = .bool x69_37 ∧ Aside0 (laws_FnVals.j0 kq l0 t703 t713 x69_37 t706 t707 t708 t709 = some r) ∧ Aside0 (kq ≤ k) ∧ Aside0 (Kd.R (Kd.int .u8) 5 wc w.heap.size (fun k_ => some k_ ≠ (v714 : Value).ownBlock) (.slice Ao17 t703.length co17) t703) ∧ Aside0 (Kd.R (Kd.int .u8) 5 wc w.heap.size (fun k_ => some k_ ≠ ((.slice Ao17 t703.length co17) : Value).ownBlock) v714 t713) ∧ Aside0 (Kd.R (Kd.int .i64) 3 wc w.heap.size (fun k_ => some k_ ≠ ((.slice Ao29 t723.length co29) : Value).ownBlock ∧ some k_ ≠ ((.slice Ao37 t732.length co37) : Value).ownBlock) (.slice Ao13 t709.length co13) t709) ∧ Aside0 (Kd.R (Kd.int .i64) 3 wc w.heap.size (fun k_ => some k_ ≠ ((.slice Ao13 t709.length co13) : Value).ownBlock ∧ some k_ ≠ ((.slice Ao37 t732.length co37) : Value).ownBlock) (.slice Ao29 t723.length co29) t723) ∧ Aside0 (Kd.R (Kd.int .i64) 3 wc w.heap.size (fun k_ => some k_ ≠ ((.slice Ao13 t709.length co13) : Value).ownBlock ∧ some k_ ≠ ((.slice Ao29 t723.length co29) : Value).ownBlock) (.slice Ao37 t732.length co37) t732) ∧ Aside0 (wc.heap[gb712]? = some (.cells #[.int .i64 t706, .int .i64 t707, .string t708, (.slice Ao13 t709.length co13)] 76 (0, 0))) ∧ Aside0 (wc.heap[gb728]? = some (.cells #[.int .i64 t720, .int .i64 t721, .string t722, (.slice Ao29 t723.length co29)] 76 (0, 0))) ∧ Aside0 (wc.heap[gb737]? = some (.cells #[.int .i64 t729, .int .i64 t730, .string t731, (.slice Ao37 t732.length co37)] 76 (0, 0))) ∧ Aside0 (Below w.heap.size w wc))
  case first =>
   have H := HC38.out
   clear HC38
   by_cases c39 : (t727 != t736) = true
   ·rw [if_pos c39] at H
    have c39b0 : (t727 != t736) = true := c39
    (try (have c39b1 : decide (t727 = t736) = false := by simpa using c39))
    (try (have c39b2 : (t727 == t736) = false := by simpa using c39))
    (try (have c39b3 : ¬ (t727 = t736) := by simpa using c39))
    clear c39
    (first | rw [c39b0] | (simp only [i64_w, i32_w]; rw [c39b0]) | skip)
    have H' := zA H
    clear H
    try go_wp2
    obtain ⟨w40, hW_⟩ : ∃ wz_, wz_ = ((((w33.setCell ⟨gb737, 0, none⟩ (.int .i64 t729)).setCell ⟨gb737, 1, none⟩ (.int .i64 t730)).setCell ⟨gb737, 2, none⟩ (.string t731)).setCell ⟨gb737, 3, none⟩ (.slice Ao37 t732.length co37)) := ⟨_, rfl⟩
    have n0_ : Aside0 (Kd.R (Kd.int .u8) 5 w40 w.heap.size (fun k_ => some k_ ≠ (v714 : Value).ownBlock ∧ some k_ ≠ (.slice Ao24 t716.length co24 : Value).ownBlock) (.slice Ao17 t703.length co17) t703) := ⟨zq106⟩
    have n1_ : Aside0 (Kd.R (Kd.int .i64) 3 w40 w.heap.size (fun k_ => some k_ ≠ (.slice Ao29 t723.length co29 : Value).ownBlock ∧ some k_ ≠ (.slice Ao37 t732.length co37 : Value).ownBlock) (.slice Ao13 t709.length co13) t709) := ⟨zq107⟩
    have n2_ : Aside0 (Kd.R (Kd.int .u8) 5 w40 w.heap.size (fun k_ => some k_ ≠ (.slice Ao17 t703.length co17 : Value).ownBlock ∧ some k_ ≠ (.slice Ao24 t716.length co24 : Value).ownBlock) v714 t713) := ⟨zq108⟩
    have n3_ : Aside0 (Kd.R (Kd.int .u8) 5 w40 w.heap.size (fun k_ => some k_ ≠ (.slice Ao17 t703.length co17 : Value).ownBlock ∧ some k_ ≠ (v714 : Value).ownBlock) (.slice Ao24 t716.length co24) t716) := ⟨zq109⟩
    have n4_ : Aside0 (Kd.R (Kd.int .i64) 3 w40 w.heap.size (fun k_ => some k_ ≠ (.slice Ao13 t709.length co13 : Value).ownBlock ∧ some k_ ≠ (.slice Ao37 t732.length co37 : Value).ownBlock) (.slice Ao29 t723.length co29) t723) := ⟨zq110⟩
    have n5_ : Aside0 (Kd.R (Kd.int .i64) 3 w40 w.heap.size (fun k_ => some k_ ≠ (.slice Ao13 t709.length co13 : Value).ownBlock ∧ some k_ ≠ (.slice Ao29 t723.length co29 : Value).ownBlock) (.slice Ao37 t732.length co37) t732) := ⟨zq111⟩
    have n6_ : Aside0 (w40.heap[gb712]? = some (.cells #[.int .i64 t706, .int .i64 t707, .string t708, .slice Ao13 t709.length co13] 76 (0, 0))) := ⟨zq185⟩
    have n7_ : Aside0 (w40.heap[gb728]? = some (.cells #[.int .i64 t720, .int .i64 t721, .string t722, .slice Ao29 t723.length co29] 76 (0, 0))) := ⟨zq186⟩
    have n8_ : Aside0 (w40.heap[gb737]? = some (.cells #[.int .i64 t729, .int .i64 t730, .string t731, .slice Ao37 t732.length co37] 76 (0, 0))) := ⟨zq47⟩
    have n9_ : Aside0 (Below w.heap.size w w40) := ⟨zq105⟩
    (try clear HO705)
    (try clear HO711)
    (try clear HO715)
    (try clear HO719)
    (try clear HO725)
    (try clear HO734)
    (try clear BK712)
    (try clear BK728)
    (try clear BK737)
    (try clear HB)
    rw [← hW_]; clear hW_
    have HO705 := n0_
    have HO711 := n1_
    have HO715 := n2_
    have HO719 := n3_
    have HO725 := n4_
    have HO734 := n5_
    have BK712 := n6_
    have BK728 := n7_
    have BK737 := n8_
    have HB := n9_
    clear n0_ n1_ n2_ n3_ n4_ n5_ n6_ n7_ n8_ n9_
    have n0_ := zA (Kd.R_drew HO705.out)
    have n1_ := zA (Kd.R_drew HO711.out)
    have n2_ := zA (Kd.R_drew HO715.out)
    have n3_ := zA (Kd.R_drew HO719.out)
    have n4_ := zA (Kd.R_drew HO725.out)
    have n5_ := zA (Kd.R_drew HO734.out)
    have n6_ := zA (blk_drew BK712.out)
    have n7_ := zA (blk_drew BK728.out)
    have n8_ := zA (blk_drew BK737.out)
    have n9_ := zA (below_drew1 HB.out)
    clear HO705
    clear HO711
    clear HO715
    clear HO719
    clear HO725
    clear HO734
    clear BK712
    clear BK728
    clear BK737
    clear HB
    have HO705 := n0_
    have HO711 := n1_
    have HO715 := n2_
    have HO719 := n3_
    have HO725 := n4_
    have HO734 := n5_
    have BK712 := n6_
    have BK728 := n7_
    have BK737 := n8_
    have HB := n9_
    clear n0_ n1_ n2_ n3_ n4_ n5_ n6_ n7_ n8_ n9_
    refine start_ (n := 22) (S := fun w' => True) (ds := []) #[false, false, false, false, false, false, false, false, false, false, false, false, false, false, false, false, false, false, false, false, false, false] (by kernel_rfl) rfl rfl trivial (fun hHeld => ?_); refine with_tabW laws_FnVals.tab8 laws_FnVals.bits8 (fun HT_ HW_ => ?_)
    generalize w40.drew = w41 at HO705 HO711 HO715 HO719 HO725 HO734 BK712 BK728 BK737 HB hHeld ⊢
    refine pure_ (i := 0) (N := some 48) (v := ?_) (a' := ?_) #[true, false, false, false, false, false, false, false, false, false, false, false, false, false, false, false, false, false, false, false, false, false] rfl rfl (any_of HT_.out (by kernel_rfl)) (fun _ _ _ h => h) (Or.inl ⟨zq84, ?_⟩) ?_ ?_
    rotate_left
    ·intro w'
     go_simp
     with_reducible rfl
    rotate_left
    ·simp only [Act.put, List.setIfInBounds_toArray, List.set_cons_zero, List.set_cons_succ, i64_w, i32_w]
     rfl
    refine pure_ (i := 1) (N := some 49) (v := ?_) (a' := ?_) #[true, true, false, false, false, false, false, false, false, false, false, false, false, false, false, false, false, false, false, false, false, false] rfl rfl (any_of HT_.out (by kernel_rfl)) (fun _ _ _ h => h) (Or.inl ⟨zq84, ?_⟩) ?_ ?_
    rotate_left
    ·intro w'
     go_simp
     with_reducible rfl
    rotate_left
    ·simp only [Act.put, List.setIfInBounds_toArray, List.set_cons_zero, List.set_cons_succ, i64_w, i32_w]
     rfl
    refine pure_ (i := 2) (N := some 50) (v := ?_) (a' := ?_) #[true, true, true, false, false, false, false, false, false, false, false, false, false, false, false, false, false, false, false, false, false, false] rfl rfl (any_of HT_.out (by kernel_rfl)) (fun _ _ _ h => h) (Or.inl ⟨zq84, ?_⟩) ?_ ?_
    rotate_left
    ·intro w'
     go_simp
     with_reducible rfl
    rotate_left
    ·simp only [Act.put, List.setIfInBounds_toArray, List.set_cons_zero, List.set_cons_succ, i64_w, i32_w]
     rfl
    refine pure_ (i := 3) (N := some 51) (v := ?_) (a' := ?_) #[true, true, true, true, false, false, false, false, false, false, false, false, false, false, false, false, false, false, false, false, false, false] rfl rfl (any_of HT_.out (by kernel_rfl)) (fun _ _ _ h => h) (Or.inl ⟨zq84, ?_⟩) ?_ ?_
    rotate_left
    ·intro w'
     go_simp
     with_reducible rfl
    rotate_left
    ·simp only [Act.put, List.setIfInBounds_toArray, List.set_cons_zero, List.set_cons_succ, i64_w, i32_w]
     rfl
    refine pure_ (i := 4) (N := some 52) (v := undef) (a' := ?_) #[true, true, true, true, true, false, false, false, false, false, false, false, false, false, false, false, false, false, false, false, false, false] rfl rfl (any_of HT_.out (by kernel_rfl)) (fun _ _ _ h => h) (Or.inr ⟨zq84, rfl⟩) ?_ ?_
    rotate_left
    ·simp only [Act.put, List.setIfInBounds_toArray, List.set_cons_zero, List.set_cons_succ, i64_w, i32_w]
     rfl
    refine pure_ (i := 5) (N := some 53) (v := undef) (a' := ?_) #[true, true, true, true, true, true, false, false, false, false, false, false, false, false, false, false, false, false, false, false, false, false] rfl rfl (any_of HT_.out (by kernel_rfl)) (fun _ _ _ h => h) (Or.inr ⟨zq84, rfl⟩) ?_ ?_
    rotate_left
    ·simp only [Act.put, List.setIfInBounds_toArray, List.set_cons_zero, List.set_cons_succ, i64_w, i32_w]
     rfl
    refine pure_ (i := 6) (N := some 54) (v := undef) (a' := ?_) #[true, true, true, true, true, true, true, false, false, false, false, false, false, false, false, false, false, false, false, false, false, false] rfl rfl (any_of HT_.out (by kernel_rfl)) (fun _ _ _ h => h) (Or.inr ⟨zq84, rfl⟩) ?_ ?_
    rotate_left
    ·simp only [Act.put, List.setIfInBounds_toArray, List.set_cons_zero, List.set_cons_succ, i64_w, i32_w]
     rfl
    refine pure_ (i := 7) (N := some 55) (v := undef) (a' := ?_) #[true, true, true, true, true, true, true, true, false, false, false, false, false, false, false, false, false, false, false, false, false, false] rfl rfl (any_of HT_.out (by kernel_rfl)) (fun _ _ _ h => h) (Or.inr ⟨zq84, rfl⟩) ?_ ?_
    rotate_left
    ·simp only [Act.put, List.setIfInBounds_toArray, List.set_cons_zero, List.set_cons_succ, i64_w, i32_w]
     rfl
    refine pure_ (i := 8) (N := some 56) (v := undef) (a' := ?_) #[true, true, true, true, true, true, true, true, true, false, false, false, false, false, false, false, false, false, false, false, false, false] rfl rfl (any_of HT_.out (by kernel_rfl)) (fun _ _ _ h => h) (Or.inr ⟨zq84, rfl⟩) ?_ ?_
    rotate_left
    ·simp only [Act.put, List.setIfInBounds_toArray, List.set_cons_zero, List.set_cons_succ, i64_w, i32_w]
     rfl
    refine pure_ (i := 9) (N := some 57) (v := undef) (a' := ?_) #[true, true, true, true, true, true, true, true, true, true, false, false, false, false, false, false, false, false, false, false, false, false] rfl rfl (any_of HT_.out (by kernel_rfl)) (fun _ _ _ h => h) (Or.inr ⟨zq84, rfl⟩) ?_ ?_
    rotate_left
    ·simp only [Act.put, List.setIfInBounds_toArray, List.set_cons_zero, List.set_cons_succ, i64_w, i32_w]
     rfl
    refine pure_ (i := 10) (N := some 58) (v := undef) (a' := ?_) #[true, true, true, true, true, true, true, true, true, true, true, false, false, false, false, false, false, false, false, false, false, false] rfl rfl (any_of HT_.out (by kernel_rfl)) (fun _ _ _ h => h) (Or.inr ⟨zq84, rfl⟩) ?_ ?_
    rotate_left
    ·simp only [Act.put, List.setIfInBounds_toArray, List.set_cons_zero, List.set_cons_succ, i64_w, i32_w]
     rfl
    refine pure_ (i := 11) (N := some 59) (v := undef) (a' := ?_) #[true, true, true, true, true, true, true, true, true, true, true, true, false, false, false, false, false, false, false, false, false, false] rfl rfl (any_of HT_.out (by kernel_rfl)) (fun _ _ _ h => h) (Or.inr ⟨zq84, rfl⟩) ?_ ?_
    rotate_left
    ·simp only [Act.put, List.setIfInBounds_toArray, List.set_cons_zero, List.set_cons_succ, i64_w, i32_w]
     rfl
    refine pure_ (i := 12) (N := some 60) (v := undef) (a' := ?_) #[true, true, true, true, true, true, true, true, true, true, true, true, true, false, false, false, false, false, false, false, false, false] rfl rfl (any_of HT_.out (by kernel_rfl)) (fun _ _ _ h => h) (Or.inr ⟨zq84, rfl⟩) ?_ ?_
    rotate_left
    ·simp only [Act.put, List.setIfInBounds_toArray, List.set_cons_zero, List.set_cons_succ, i64_w, i32_w]
     rfl
    refine pure_ (i := 13) (N := some 61) (v := undef) (a' := ?_) #[true, true, true, true, true, true, true, true, true, true, true, true, true, true, false, false, false, false, false, false, false, false] rfl rfl (any_of HT_.out (by kernel_rfl)) (fun _ _ _ h => h) (Or.inr ⟨zq84, rfl⟩) ?_ ?_
    rotate_left
    ·simp only [Act.put, List.setIfInBounds_toArray, List.set_cons_zero, List.set_cons_succ, i64_w, i32_w]
     rfl
    refine pure_ (i := 14) (N := some 62) (v := undef) (a' := ?_) #[true, true, true, true, true, true, true, true, true, true, true, true, true, true, true, false, false, false, false, false, false, false] rfl rfl (any_of HT_.out (by kernel_rfl)) (fun _ _ _ h => h) (Or.inr ⟨zq84, rfl⟩) ?_ ?_
    rotate_left
    ·simp only [Act.put, List.setIfInBounds_toArray, List.set_cons_zero, List.set_cons_succ, i64_w, i32_w]
     rfl
    refine pure_ (i := 15) (N := some 63) (v := undef) (a' := ?_) #[true, true, true, true, true, true, true, true, true, true, true, true, true, true, true, true, false, false, false, false, false, false] rfl rfl (any_of HT_.out (by kernel_rfl)) (fun _ _ _ h => h) (Or.inr ⟨zq84, rfl⟩) ?_ ?_
    rotate_left
    ·simp only [Act.put, List.setIfInBounds_toArray, List.set_cons_zero, List.set_cons_succ, i64_w, i32_w]
     rfl
    refine pure_ (i := 16) (N := some 64) (v := undef) (a' := ?_) #[true, true, true, true, true, true, true, true, true, true, true, true, true, true, true, true, true, false, false, false, false, false] rfl rfl (any_of HT_.out (by kernel_rfl)) (fun _ _ _ h => h) (Or.inr ⟨zq84, rfl⟩) ?_ ?_
    rotate_left
    ·simp only [Act.put, List.setIfInBounds_toArray, List.set_cons_zero, List.set_cons_succ, i64_w, i32_w]
     rfl
    refine pure_ (i := 17) (N := some 65) (v := undef) (a' := ?_) #[true, true, true, true, true, true, true, true, true, true, true, true, true, true, true, true, true, true, false, false, false, false] rfl rfl (any_of HT_.out (by kernel_rfl)) (fun _ _ _ h => h) (Or.inr ⟨zq84, rfl⟩) ?_ ?_
    rotate_left
    ·simp only [Act.put, List.setIfInBounds_toArray, List.set_cons_zero, List.set_cons_succ, i64_w, i32_w]
     rfl
    refine pure_ (i := 18) (N := some 66) (v := undef) (a' := ?_) #[true, true, true, true, true, true, true, true, true, true, true, true, true, true, true, true, true, true, true, false, false, false] rfl rfl (any_of HT_.out (by kernel_rfl)) (fun _ _ _ h => h) (Or.inr ⟨zq84, rfl⟩) ?_ ?_
    rotate_left
    ·simp only [Act.put, List.setIfInBounds_toArray, List.set_cons_zero, List.set_cons_succ, i64_w, i32_w]
     rfl
    refine pure_ (i := 19) (N := some 67) (v := undef) (a' := ?_) #[true, true, true, true, true, true, true, true, true, true, true, true, true, true, true, true, true, true, true, true, false, false] rfl rfl (any_of HT_.out (by kernel_rfl)) (fun _ _ _ h => h) (Or.inr ⟨zq84, rfl⟩) ?_ ?_
    rotate_left
    ·simp only [Act.put, List.setIfInBounds_toArray, List.set_cons_zero, List.set_cons_succ, i64_w, i32_w]
     rfl
    refine pure_ (i := 20) (N := some 68) (v := undef) (a' := ?_) #[true, true, true, true, true, true, true, true, true, true, true, true, true, true, true, true, true, true, true, true, true, false] rfl rfl (any_of HT_.out (by kernel_rfl)) (fun _ _ _ h => h) (Or.inr ⟨zq84, rfl⟩) ?_ ?_
    rotate_left
    ·simp only [Act.put, List.setIfInBounds_toArray, List.set_cons_zero, List.set_cons_succ, i64_w, i32_w]
     rfl
    refine pure_ (i := 21) (N := some 69) (v := ?_) (a' := ?_) #[true, true, true, true, true, true, true, true, true, true, true, true, true, true, true, true, true, true, true, true, true, true] rfl rfl (any_of HT_.out (by kernel_rfl)) (fun _ _ _ h => h) (Or.inl ⟨zq84, ?_⟩) ?_ ?_
    rotate_left
    ·intro w'
     go_simp
     with_reducible rfl
    rotate_left
    ·simp only [Act.put, List.setIfInBounds_toArray, List.set_cons_zero, List.set_cons_succ, i64_w, i32_w]
     rfl
    refine done_ (done_of HT_.out (by kernel_rfl)) ?_
    try go_wp2
    go_meet
    case rel => exact ⟨_, (true), zq10, H', ⟨zq132⟩, ⟨zq169⟩, ⟨zq170⟩, ⟨zq50⟩, ⟨zq85⟩, ⟨zq90⟩, ⟨zq16⟩, ⟨zq20⟩, ⟨zq26⟩, ⟨zq15⟩⟩
   ·rw [if_neg c39] at H
    have c39b0 : (t727 != t736) = false := by simpa using c39
    (try (have c39b1 : decide (t727 = t736) = true := by simpa using c39))
    (try (have c39b2 : (t727 == t736) = true := by simpa using c39))
    clear c39
    (first | rw [c39b0] | (simp only [i64_w, i32_w]; rw [c39b0]) | skip)
    by_cases c42 : t727 = true
    ·subst c42
     rw [if_pos rfl] at H
     obtain ⟨t738, A43, H⟩ := zB H
     try dsimp only at H
     by_cases c44 : t738 = true
     ·subst c44
      rw [if_pos rfl] at H
      obtain ⟨y739, hy739⟩ : ∃ y_ : List Int, y_ = (([] : List Int)) := ⟨_, rfl⟩
      rw [← hy739] at H
      have Ny739 := zA hy739
      clear hy739
      obtain ⟨t742, A45, H⟩ := zB H
      try dsimp only at H
      obtain ⟨c46, H⟩ := zN H
      have c46b0 := eq_true c46
      have c46b1 : decide (0 ≤ t717) = true := decide_eq_true c46
      clear c46
      obtain ⟨c47, H⟩ := zN H
      have c47b0 := eq_true c47
      have c47b1 : decide (t717 ≤ t726) = true := decide_eq_true c47
      clear c47
      obtain ⟨c48, H⟩ := zN H
      have c48b0 := eq_true c48
      have c48b1 : decide (t726 ≤ (t716.length : Int)) = true := decide_eq_true c48
      clear c48
      obtain ⟨y745, hy745⟩ : ∃ y_ : List Int, y_ = ((t716.take (t726 : Int).toNat).drop (t717 : Int).toNat) := ⟨_, rfl⟩
      rw [← hy745] at H
      have Ny745 := zA hy745
      clear hy745
      obtain ⟨t749, A49, H⟩ := zB H
      try dsimp only at H
      have H' := zA H
      clear H
      try go_wp2
      obtain ⟨w50, hW_⟩ : ∃ wz_, wz_ = ((((w33.setCell ⟨gb737, 0, none⟩ (.int .i64 t729)).setCell ⟨gb737, 1, none⟩ (.int .i64 t730)).setCell ⟨gb737, 2, none⟩ (.string t731)).setCell ⟨gb737, 3, none⟩ (.slice Ao37 t732.length co37)) := ⟨_, rfl⟩
      have n0_ : Aside0 (Kd.R (Kd.int .u8) 5 w50 w.heap.size (fun k_ => some k_ ≠ (v714 : Value).ownBlock ∧ some k_ ≠ (.slice Ao24 t716.length co24 : Value).ownBlock) (.slice Ao17 t703.length co17) t703) := ⟨zq106⟩
      have n1_ : Aside0 (Kd.R (Kd.int .i64) 3 w50 w.heap.size (fun k_ => some k_ ≠ (.slice Ao29 t723.length co29 : Value).ownBlock ∧ some k_ ≠ (.slice Ao37 t732.length co37 : Value).ownBlock) (.slice Ao13 t709.length co13) t709) := ⟨zq107⟩
      have n2_ : Aside0 (Kd.R (Kd.int .u8) 5 w50 w.heap.size (fun k_ => some k_ ≠ (.slice Ao17 t703.length co17 : Value).ownBlock ∧ some k_ ≠ (.slice Ao24 t716.length co24 : Value).ownBlock) v714 t713) := ⟨zq108⟩
      have n3_ : Aside0 (Kd.R (Kd.int .u8) 5 w50 w.heap.size (fun k_ => some k_ ≠ (.slice Ao17 t703.length co17 : Value).ownBlock ∧ some k_ ≠ (v714 : Value).ownBlock) (.slice Ao24 t716.length co24) t716) := ⟨zq109⟩
      have n4_ : Aside0 (Kd.R (Kd.int .i64) 3 w50 w.heap.size (fun k_ => some k_ ≠ (.slice Ao13 t709.length co13 : Value).ownBlock ∧ some k_ ≠ (.slice Ao37 t732.length co37 : Value).ownBlock) (.slice Ao29 t723.length co29) t723) := ⟨zq110⟩
      have n5_ : Aside0 (Kd.R (Kd.int .i64) 3 w50 w.heap.size (fun k_ => some k_ ≠ (.slice Ao13 t709.length co13 : Value).ownBlock ∧ some k_ ≠ (.slice Ao29 t723.length co29 : Value).ownBlock) (.slice Ao37 t732.length co37) t732) := ⟨zq111⟩
      have n6_ : Aside0 (w50.heap[gb712]? = some (.cells #[.int .i64 t706, .int .i64 t707, .string t708, .slice Ao13 t709.length co13] 76 (0, 0))) := ⟨zq185⟩
      have n7_ : Aside0 (w50.heap[gb728]? = some (.cells #[.int .i64 t720, .int .i64 t721, .string t722, .slice Ao29 t723.length co29] 76 (0, 0))) := ⟨zq186⟩
      have n8_ : Aside0 (w50.heap[gb737]? = some (.cells #[.int .i64 t729, .int .i64 t730, .string t731, .slice Ao37 t732.length co37] 76 (0, 0))) := ⟨zq47⟩
      have n9_ : Aside0 (Below w.heap.size w w50) := ⟨zq105⟩
      (try clear HO705)
      (try clear HO711)
      (try clear HO715)
      (try clear HO719)
      (try clear HO725)
      (try clear HO734)
      (try clear BK712)
      (try clear BK728)
      (try clear BK737)
      (try clear HB)
      rw [← hW_]; clear hW_
      have HO705 := n0_
      have HO711 := n1_
      have HO715 := n2_
      have HO719 := n3_
      have HO725 := n4_
      have HO734 := n5_
      have BK712 := n6_
      have BK728 := n7_
      have BK737 := n8_
      have HB := n9_
      clear n0_ n1_ n2_ n3_ n4_ n5_ n6_ n7_ n8_ n9_
      have n0_ := zA (Kd.R_drew HO705.out)
      have n1_ := zA (Kd.R_drew HO711.out)
      have n2_ := zA (Kd.R_drew HO715.out)
      have n3_ := zA (Kd.R_drew HO719.out)
      have n4_ := zA (Kd.R_drew HO725.out)
      have n5_ := zA (Kd.R_drew HO734.out)
      have n6_ := zA (blk_drew BK712.out)
      have n7_ := zA (blk_drew BK728.out)
      have n8_ := zA (blk_drew BK737.out)
      have n9_ := zA (below_drew1 HB.out)
      clear HO705
      clear HO711
      clear HO715
      clear HO719
      clear HO725
      clear HO734
      clear BK712
      clear BK728
      clear BK737
      clear HB
      have HO705 := n0_
      have HO711 := n1_
      have HO715 := n2_
      have HO719 := n3_
      have HO725 := n4_
      have HO734 := n5_
      have BK712 := n6_
      have BK728 := n7_
      have BK737 := n8_
      have HB := n9_
      clear n0_ n1_ n2_ n3_ n4_ n5_ n6_ n7_ n8_ n9_
      refine start_ (n := 22) (S := fun w' => w'.cell? ⟨gb728, 0, none⟩ = some (.int .i64 t720) ∧ w'.cell? ⟨gb728, 1, none⟩ = some (.int .i64 t721) ∧ w'.cell? ⟨gb728, 2, none⟩ = some (.string t722) ∧ w'.cell? ⟨gb728, 3, none⟩ = some (.slice Ao29 t723.length co29)) (ds := []) #[false, false, false, false, false, false, false, false, false, false, false, false, false, false, false, false, false, false, false, false, false, false] (by kernel_rfl) rfl rfl ⟨(blk_cell BK728.out 0).trans rfl, (blk_cell BK728.out 1).trans rfl, (blk_cell BK728.out 2).trans rfl, (blk_cell BK728.out 3).trans rfl⟩ (fun hHeld => ?_); refine with_tabW laws_FnVals.tab8 laws_FnVals.bits8 (fun HT_ HW_ => ?_)
      generalize w50.drew = w51 at HO705 HO711 HO715 HO719 HO725 HO734 BK712 BK728 BK737 HB hHeld ⊢
      refine pure_ (i := 0) (N := some 48) (v := ?_) (a' := ?_) #[true, false, false, false, false, false, false, false, false, false, false, false, false, false, false, false, false, false, false, false, false, false] rfl rfl (any_of HT_.out (by kernel_rfl)) (fun _ _ _ h => h) (Or.inl ⟨zq84, ?_⟩) ?_ ?_
      rotate_left
      ·intro w'
       go_simp
       with_reducible rfl
      rotate_left
      ·simp only [Act.put, List.setIfInBounds_toArray, List.set_cons_zero, List.set_cons_succ, i64_w, i32_w]
       rfl
      refine pure_ (i := 1) (N := some 49) (v := ?_) (a' := ?_) #[true, true, false, false, false, false, false, false, false, false, false, false, false, false, false, false, false, false, false, false, false, false] rfl rfl (any_of HT_.out (by kernel_rfl)) (fun _ _ _ h => h) (Or.inl ⟨zq84, ?_⟩) ?_ ?_
      rotate_left
      ·intro w'
       go_simp
       with_reducible rfl
      rotate_left
      ·simp only [Act.put, List.setIfInBounds_toArray, List.set_cons_zero, List.set_cons_succ, i64_w, i32_w]
       rfl
      refine pure_ (i := 2) (N := some 50) (v := ?_) (a' := ?_) #[true, true, true, false, false, false, false, false, false, false, false, false, false, false, false, false, false, false, false, false, false, false] rfl rfl (any_of HT_.out (by kernel_rfl)) (fun _ _ _ h => h) (Or.inl ⟨zq84, ?_⟩) ?_ ?_
      rotate_left
      ·intro w'
       go_simp
       with_reducible rfl
      rotate_left
      ·simp only [Act.put, List.setIfInBounds_toArray, List.set_cons_zero, List.set_cons_succ, i64_w, i32_w]
       rfl
      refine pure_ (i := 3) (N := some 51) (v := ?_) (a' := ?_) #[true, true, true, true, false, false, false, false, false, false, false, false, false, false, false, false, false, false, false, false, false, false] rfl rfl (any_of HT_.out (by kernel_rfl)) (fun _ _ _ h => h) (Or.inl ⟨zq84, ?_⟩) ?_ ?_
      rotate_left
      ·intro w'
       go_simp
       with_reducible rfl
      rotate_left
      ·simp only [Act.put, List.setIfInBounds_toArray, List.set_cons_zero, List.set_cons_succ, i64_w, i32_w]
       rfl
      refine pure_ (i := 4) (N := some 52) (v := ?_) (a' := ?_) #[true, true, true, true, true, false, false, false, false, false, false, false, false, false, false, false, false, false, false, false, false, false] rfl rfl (any_of HT_.out (by kernel_rfl)) (fun _ _ _ h => h) (Or.inl ⟨zq84, ?_⟩) ?_ ?_
      rotate_left
      ·intro w'
       go_simp
       with_reducible rfl
      rotate_left
      ·simp only [Act.put, List.setIfInBounds_toArray, List.set_cons_zero, List.set_cons_succ, i64_w, i32_w]
       rfl
      refine pure_ (i := 5) (N := some 53) (v := ?_) (a' := ?_) #[true, true, true, true, true, true, false, false, false, false, false, false, false, false, false, false, false, false, false, false, false, false] rfl rfl (any_of HT_.out (by kernel_rfl)) (fun _ _ _ h => h) (Or.inl ⟨zq84, ?_⟩) ?_ ?_
      rotate_left
      ·intro w'
       go_simp
       with_reducible rfl
      rotate_left
      ·simp only [Act.put, List.setIfInBounds_toArray, List.set_cons_zero, List.set_cons_succ, i64_w, i32_w]
       rfl
      refine take_ (i := 6) (N := some 54) (v := ?_) (a' := ?_) #[true, true, true, true, true, true, true, false, false, false, false, false, false, false, false, false, false, false, false, false, false, false] rfl rfl (take_ofW HT_.out HW_.out (by kernel_rfl)) (fun _ _ _ h => h) (Or.inl ⟨zq84, ?_⟩) hHeld ?_ ?_
      rotate_left
      ·rintro w' ⟨s0, s1, s2, s3⟩
       go_simp
       with_reducible rfl
      rotate_left
      ·simp only [Act.put, List.setIfInBounds_toArray, List.set_cons_zero, List.set_cons_succ, i64_w, i32_w]
       rfl
      refine one_ (i := 7) (N := some 55) #[true, true, true, true, true, true, true, true, false, false, false, false, false, false, false, false, false, false, false, false, false, false] rfl rfl (one_of HT_.out (by kernel_rfl)) zq39 (fun K hK => ?_)
      refine goes_ Try.func90 (by kernel_rfl) rfl #[.agg #[.int .i64 t720, .int .i64 t721, .string t722, .slice Ao29 t723.length co29]] zq84 rfl rfl zq1 ?_
      with_reducible refine (impl_ValOk.calls k t720 t721 t722 _ _ t723 true _ ?side1 ?side2 A43.out).mono ?_
      (case side1 => repeat (first | exact (Kd.R_reads' HO725.out).2.2 | (with_reducible refine Kd.C_alloc ?_ _) | (with_reducible refine Kd.C_drewN ?_ _) | (with_reducible refine Kd.C_drew ?_)))
      (case side2 => exact (Kd.R_reads' HO725.out).2.1)
      rintro e w52 ⟨rfl, hb⟩
      refine ⟨_, rfl, ?_⟩
      have n0_ := zA (Kd.R_below zq66 hb)
      have n1_ := zA (Kd.R_below zq50 hb)
      have n2_ := zA (Kd.R_below zq72 hb)
      have n3_ := zA (Kd.R_below zq89 hb)
      have n4_ := zA (Kd.R_below zq85 hb)
      have n5_ := zA (Kd.R_below zq90 hb)
      have n6_ := zA (blk_below (g := gb712) (o := .cells #[.int .i64 t706, .int .i64 t707, .string t708, .slice Ao13 t709.length co13] 76 (0, 0)) zq16 hb)
      have n7_ := zA (blk_below (g := gb728) (o := .cells #[.int .i64 t720, .int .i64 t721, .string t722, .slice Ao29 t723.length co29] 76 (0, 0)) zq20 hb)
      have n8_ := zA (blk_below (g := gb737) (o := .cells #[.int .i64 t729, .int .i64 t730, .string t731, .slice Ao37 t732.length co37] 76 (0, 0)) zq26 hb)
      have n9_ := zA (below_step zq15 hb)
      clear HO705
      clear HO711
      clear HO715
      clear HO719
      clear HO725
      clear HO734
      clear BK712
      clear BK728
      clear BK737
      clear HB
      have HO705 := n0_
      have HO711 := n1_
      have HO715 := n2_
      have HO719 := n3_
      have HO725 := n4_
      have HO734 := n5_
      have BK712 := n6_
      have BK728 := n7_
      have BK737 := n8_
      have HB := n9_
      clear n0_ n1_ n2_ n3_ n4_ n5_ n6_ n7_ n8_ n9_
      (try clear hb)
      (try clear hb2)
      (try clear hk)
      (try clear hi)
      have q53 : (t726 : Int) ≤ ((t716.length : Int) : Int) := of_decide_eq_true zq7
      obtain ⟨i053, hi053, _, hsz53, _⟩ := info_parts info5
      have hroom53 : t716.length ≤ co24 := (Kd.R_reads' HO719.out).2.1
      have hC53 : Kd.C (Kd.int .u8) _ Ao24 t716.length t716 := (Kd.R_reads' HO719.out).2.2
      have ql53 : (t717 : Int) ≤ (t726 : Int) := of_decide_eq_true zq7
      have q053 : (0 : Int) ≤ (t717 : Int) := of_decide_eq_true zq7
      have hcut53 := cut_mid (P := Try.prog) 22 5 .i64 .i64 Try.underlying22 hi053 1 hsz53 Ao24 t716.length co24 t717 t726 q053 ql53 q53 hroom53
      have hr53 := Kd.C_mid (lo := (t717 : Int).toNat) (hi := (t726 : Int).toNat) (c := co24) hC53 zq144 zq144 hroom53
      obtain ⟨A53, hA53⟩ : ∃ A1, A1 = (if co24 = (t717 : Int).toNat then Ao24 else (Ao24 : Option Addr).map (·.add ((t717 : Int).toNat * 1))) := ⟨_, rfl⟩
      obtain ⟨c53, hc53⟩ : ∃ c1, c1 = co24 - (t717 : Int).toNat := ⟨_, rfl⟩
      have hy53 : y745.length = (t726 : Int).toNat - (t717 : Int).toNat := (by rw [Ny745.out, List.length_drop, List.length_take] <;> omega)
      rw [show ((t716).take (t726 : Int).toNat).drop (t717 : Int).toNat = y745 from Ny745.out.symm] at hr53
      replace hr53 : Kd.C (Kd.int .u8) _ A53 y745.length y745 := (by rw [hA53]; exact hr53)
      rw [← hy53, ← hA53, ← hc53] at hcut53
      have HR748 := zA hr53
      have HC748 := zA (show y745.length ≤ c53 from by rw [hy53, hc53]; exact Nat.sub_le_sub_right (Nat.le_trans zq144 hroom53) _)
      clear hr53 hC53 hroom53 hi053 hsz53 hc53
      have KY53 := zA hy53
      have KA53 := zA hA53
      clear hy53 hA53
      have KL53 := zA (show (t726 : Int).toNat ≤ t716.length from by omega)
      have KM53 := zA (show (t717 : Int).toNat ≤ (t726 : Int).toNat from by omega)
      replace q53 := eq_true q53
      refine hK.out _ _ ⟨(blk_cell BK728.out 0).trans rfl, (blk_cell BK728.out 1).trans rfl, (blk_cell BK728.out 2).trans rfl, (blk_cell BK728.out 3).trans rfl⟩ (fun hHeld => ?_)
      clear hK K
      refine norm_ (a' := ?_) ?_ ?_
      rotate_left
      ·show Act.put _ (some 55) _ = _
       simp only [Act.put, List.setIfInBounds_toArray, List.set_cons_zero, List.set_cons_succ, i64_w, i32_w]
       rfl
      refine pure_ (i := 8) (N := some 56) (v := ?_) (a' := ?_) #[true, true, true, true, true, true, true, true, true, false, false, false, false, false, false, false, false, false, false, false, false, false] rfl rfl (any_of HT_.out (by kernel_rfl)) (fun _ _ _ h => h) (Or.inl ⟨zq84, ?_⟩) ?_ ?_
      rotate_left
      ·intro w'
       go_simp
       with_reducible rfl
      rotate_left
      ·simp only [Act.put, List.setIfInBounds_toArray, List.set_cons_zero, List.set_cons_succ, i64_w, i32_w]
       rfl
      refine pure_ (i := 9) (N := some 57) (v := ?_) (a' := ?_) #[true, true, true, true, true, true, true, true, true, true, false, false, false, false, false, false, false, false, false, false, false, false] rfl rfl (any_of HT_.out (by kernel_rfl)) (fun _ _ _ h => h) (Or.inl ⟨zq84, ?_⟩) ?_ ?_
      rotate_left
      ·intro w'
       go_simp
       with_reducible rfl
      rotate_left
      ·simp only [Act.put, List.setIfInBounds_toArray, List.set_cons_zero, List.set_cons_succ, i64_w, i32_w]
       rfl
      refine pure_ (i := 13) (N := some 61) (v := ?_) (a' := ?_) #[true, true, true, true, true, true, true, true, true, true, false, false, false, true, false, false, false, false, false, false, false, false] rfl rfl (any_of HT_.out (by kernel_rfl)) (fun _ _ _ h => h) (Or.inl ⟨zq84, ?_⟩) ?_ ?_
      rotate_left
      ·intro w'
       go_simp
       with_reducible rfl
      rotate_left
      ·simp only [Act.put, List.setIfInBounds_toArray, List.set_cons_zero, List.set_cons_succ, i64_w, i32_w]
       rfl
      refine pure_ (i := 14) (N := some 62) (v := ?_) (a' := ?_) #[true, true, true, true, true, true, true, true, true, true, false, false, false, true, true, false, false, false, false, false, false, false] rfl rfl (any_of HT_.out (by kernel_rfl)) (fun _ _ _ h => h) (Or.inl ⟨zq84, ?_⟩) ?_ ?_
      rotate_left
      ·intro w'
       go_simp
       with_reducible rfl
      rotate_left
      ·simp only [Act.put, List.setIfInBounds_toArray, List.set_cons_zero, List.set_cons_succ, i64_w, i32_w]
       rfl
      refine pure_ (i := 15) (N := some 63) (v := ?_) (a' := ?_) #[true, true, true, true, true, true, true, true, true, true, false, false, false, true, true, true, false, false, false, false, false, false] rfl rfl (any_of HT_.out (by kernel_rfl)) (fun _ _ _ h => h) (Or.inl ⟨zq84, ?_⟩) ?_ ?_
      rotate_left
      ·intro w'
       go_simp
       with_reducible rfl
      rotate_left
      ·simp only [Act.put, List.setIfInBounds_toArray, List.set_cons_zero, List.set_cons_succ, i64_w, i32_w]
       rfl
      refine pure_ (i := 16) (N := some 64) (v := ?_) (a' := ?_) #[true, true, true, true, true, true, true, true, true, true, false, false, false, true, true, true, true, false, false, false, false, false] rfl rfl (any_of HT_.out (by kernel_rfl)) (fun _ _ _ h => h) (Or.inl ⟨zq84, ?_⟩) ?_ ?_
      rotate_left
      ·intro w'
       go_simp
       with_reducible rfl
      rotate_left
      ·simp only [Act.put, List.setIfInBounds_toArray, List.set_cons_zero, List.set_cons_succ, i64_w, i32_w]
       rfl
      refine take_ (i := 11) (N := some 59) (v := ?_) (a' := ?_) #[true, true, true, true, true, true, true, true, true, true, false, true, false, true, true, true, true, false, false, false, false, false] rfl rfl (take_ofW HT_.out HW_.out (by kernel_rfl)) (fun _ _ _ h => h) (Or.inl ⟨zq84, ?_⟩) hHeld ?_ ?_
      rotate_left
      ·rintro w' ⟨s0, s1, s2, s3⟩
       go_simp
       with_reducible rfl
      rotate_left
      ·simp only [Act.put, List.setIfInBounds_toArray, List.set_cons_zero, List.set_cons_succ, i64_w, i32_w]
       rfl
      refine one_ (i := 10) (N := some 58) #[true, true, true, true, true, true, true, true, true, true, true, true, false, true, true, true, true, false, false, false, false, false] rfl rfl (one_of HT_.out (by kernel_rfl)) zq39 (fun K hK => ?_)
      refine Kd.R_lit_step (Kd.int .u8) _ 5 ?hg (N := 58) ?hd (xs := ([] : List Int)) (inner := []) (ok := fun _ => True) (okp := fun _ => True) ?hr ?hp (fun _ hk => hk) trivial (Below.refl _ _) (Nat.le_refl _) zq134 ?_; (case hd => rfl); (case hg => rfl); (case hr => first | (go_simp; done) | (go_simp; rfl)); (case hp => exact (Reps.none _ _))
      intro v740 w54 ho55 hb hg_ hnew_
      clear hg_ hnew_
      (first | rw [← Ny739.out] at ho55 | (simp only [Int.reduceToNat] at ho55; rw [← Ny739.out] at ho55))
      have n0_ := zA (Kd.R_elder' zq66 (Kd.R_base ho55) hb)
      have n1_ := zA (Kd.R_below zq50 hb)
      have n2_ := zA (Kd.R_elder' zq72 (Kd.R_base ho55) hb)
      have n3_ := zA (Kd.R_elder' zq89 (Kd.R_base ho55) hb)
      have n4_ := zA (Kd.R_below zq85 hb)
      have n5_ := zA (Kd.R_below zq90 hb)
      have n6_ := zA (Kd.R_lower (Kd.R_new' (Kd.R_new' (Kd.R_new' ho55 (Kd.R_lt zq66)) (Kd.R_lt zq72)) (Kd.R_lt zq89)) (below_size zq15))
      have n7_ := zA (blk_below (g := gb712) (o := .cells #[.int .i64 t706, .int .i64 t707, .string t708, .slice Ao13 t709.length co13] 76 (0, 0)) zq16 hb)
      have n8_ := zA (blk_below (g := gb728) (o := .cells #[.int .i64 t720, .int .i64 t721, .string t722, .slice Ao29 t723.length co29] 76 (0, 0)) zq20 hb)
      have n9_ := zA (blk_below (g := gb737) (o := .cells #[.int .i64 t729, .int .i64 t730, .string t731, .slice Ao37 t732.length co37] 76 (0, 0)) zq26 hb)
      have n10_ := zA (Kd.C_below zq145 hb)
      have n11_ := zA (below_step zq15 hb)
      clear HO705
      clear HO711
      clear HO715
      clear HO719
      clear HO725
      clear HO734
      clear BK712
      clear BK728
      clear BK737
      clear HR748
      clear HB
      have HO705 := n0_
      have HO711 := n1_
      have HO715 := n2_
      have HO719 := n3_
      have HO725 := n4_
      have HO734 := n5_
      have HO741 := n6_
      have BK712 := n7_
      have BK728 := n8_
      have BK737 := n9_
      have HR748 := n10_
      have HB := n11_
      clear n0_ n1_ n2_ n3_ n4_ n5_ n6_ n7_ n8_ n9_ n10_ n11_
      clear hb ho55
      obtain ⟨Ao56, co56, eo56⟩ := Kd.R_slice HO741.out
      (first | subst eo56 | (injection eo56 with f1_ f2_ f3_; have f4_ := f1_.symm; have f5_ := f3_.symm; clear f1_ f2_ f3_; subst f4_; subst f5_))
      refine hK.out _ _ ⟨(blk_cell BK728.out 0).trans rfl, (blk_cell BK728.out 1).trans rfl, (blk_cell BK728.out 2).trans rfl, (blk_cell BK728.out 3).trans rfl⟩ (fun hHeld => ?_)
      clear hK K
      refine norm_ (a' := ?_) ?_ ?_
      rotate_left
      ·show Act.put _ (some 58) _ = _
       simp only [Act.put, List.setIfInBounds_toArray, List.set_cons_zero, List.set_cons_succ, i64_w, i32_w]
       rfl
      refine one_ (i := 12) (N := some 60) #[true, true, true, true, true, true, true, true, true, true, true, true, true, true, true, true, true, false, false, false, false, false] rfl rfl (one_of HT_.out (by kernel_rfl)) zq39 (fun K hK => ?_)
      refine goes_ Try.func70 (by kernel_rfl) rfl #[.slice Ao56 y739.length co56, .agg #[.int .i64 t720, .int .i64 t721, .string t722, .slice Ao29 t723.length co29]] zq84 rfl rfl zq1 ?_
      with_reducible refine (impl_PutVal.calls k _ _ y739 t720 t721 t722 _ _ t723 t742 _ ?side1 ?side2 ?side3 ?side4 A45.out).mono ?_
      (case side1 => repeat (first | exact (Kd.R_reads' HO741.out).2.2 | (with_reducible refine Kd.C_alloc ?_ _) | (with_reducible refine Kd.C_drewN ?_ _) | (with_reducible refine Kd.C_drew ?_)))
      (case side2 => exact (Kd.R_reads' HO741.out).2.1)
      (case side3 => repeat (first | exact (Kd.R_reads' HO725.out).2.2 | (with_reducible refine Kd.C_alloc ?_ _) | (with_reducible refine Kd.C_drewN ?_ _) | (with_reducible refine Kd.C_drew ?_)))
      (case side4 => exact (Kd.R_reads' HO725.out).2.1)
      rintro e w57 ⟨v743, rfl, ho0, hb⟩
      refine ⟨_, rfl, ?_⟩
      have n0_ := zA (Kd.R_elder' zq66 (Kd.R_base ho0) hb)
      have n1_ := zA (Kd.R_below zq50 hb)
      have n2_ := zA (Kd.R_elder' zq72 (Kd.R_base ho0) hb)
      have n3_ := zA (Kd.R_elder' zq89 (Kd.R_base ho0) hb)
      have n4_ := zA (Kd.R_below zq85 hb)
      have n5_ := zA (Kd.R_below zq90 hb)
      have n6_ := zA (Kd.R_elder' zq216 (Kd.R_base ho0) hb)
      have n7_ := zA (Kd.R_lower (Kd.R_new' (Kd.R_new' (Kd.R_new' (Kd.R_new' ho0 (Kd.R_lt zq66)) (Kd.R_lt zq72)) (Kd.R_lt zq89)) (Kd.R_lt zq216)) (below_size zq15))
      have n8_ := zA (blk_below (g := gb712) (o := .cells #[.int .i64 t706, .int .i64 t707, .string t708, .slice Ao13 t709.length co13] 76 (0, 0)) zq16 hb)
      have n9_ := zA (blk_below (g := gb728) (o := .cells #[.int .i64 t720, .int .i64 t721, .string t722, .slice Ao29 t723.length co29] 76 (0, 0)) zq20 hb)
      have n10_ := zA (blk_below (g := gb737) (o := .cells #[.int .i64 t729, .int .i64 t730, .string t731, .slice Ao37 t732.length co37] 76 (0, 0)) zq26 hb)
      have n11_ := zA (Kd.C_below zq145 hb)
      have n12_ := zA (below_step zq15 hb)
      clear HO705
      clear HO711
      clear HO715
      clear HO719
      clear HO725
      clear HO734
      clear HO741
      clear BK712
      clear BK728
      clear BK737
      clear HR748
      clear HB
      have HO705 := n0_
      have HO711 := n1_
      have HO715 := n2_
      have HO719 := n3_
      have HO725 := n4_
      have HO734 := n5_
      have HO741 := n6_
      have HO744 := n7_
      have BK712 := n8_
      have BK728 := n9_
      have BK737 := n10_
      have HR748 := n11_
      have HB := n12_
      clear n0_ n1_ n2_ n3_ n4_ n5_ n6_ n7_ n8_ n9_ n10_ n11_ n12_
      (try clear hb)
      (try clear hb2)
      (try clear hk)
      (try clear hi)
      (try clear ho0)
      obtain ⟨Ao58, co58, eo58⟩ := Kd.R_slice HO744.out
      (first | subst eo58 | (injection eo58 with f1_ f2_ f3_; have f4_ := f1_.symm; have f5_ := f3_.symm; clear f1_ f2_ f3_; subst f4_; subst f5_))
      refine hK.out _ _ ⟨(blk_cell BK728.out 0).trans rfl, (blk_cell BK728.out 1).trans rfl, (blk_cell BK728.out 2).trans rfl, (blk_cell BK728.out 3).trans rfl⟩ (fun hHeld => ?_)
      clear hK K
      refine norm_ (a' := ?_) ?_ ?_
      rotate_left
      ·show Act.put _ (some 60) _ = _
       simp only [Act.put, List.setIfInBounds_toArray, List.set_cons_zero, List.set_cons_succ, i64_w, i32_w]
       rfl
      refine one_ (i := 17) (N := some 65) #[true, true, true, true, true, true, true, true, true, true, true, true, true, true, true, true, true, true, false, false, false, false] rfl rfl (one_of HT_.out (by kernel_rfl)) zq39 (fun K hK => ?_)
      refine goes_ Try.func25 (by kernel_rfl) rfl #[.slice Ao58 t742.length co58, .slice A53 y745.length c53] zq84 rfl rfl zq1 ?_
      with_reducible refine (laws_sameBytes.calls k _ _ t742 _ _ y745 t749 _ ?side1 ?side2 ?side3 ?side4 A49.out).mono ?_
      (case side1 => repeat (first | exact (Kd.R_reads' HO744.out).2.2 | (with_reducible refine Kd.C_alloc ?_ _) | (with_reducible refine Kd.C_drewN ?_ _) | (with_reducible refine Kd.C_drew ?_)))
      (case side2 => exact (Kd.R_reads' HO744.out).2.1)
      (case side3 => repeat (first | exact zq145 | (with_reducible refine Kd.C_alloc ?_ _) | (with_reducible refine Kd.C_drewN ?_ _) | (with_reducible refine Kd.C_drew ?_)))
      (case side4 => exact HC748.out)
      rintro e w' ⟨rfl, ⟨nd, rfl⟩⟩
      refine ⟨_, rfl, ?_⟩
      refine hK.out _ _ ⟨(blk_cell BK728.out 0).trans rfl, (blk_cell BK728.out 1).trans rfl, (blk_cell BK728.out 2).trans rfl, (blk_cell BK728.out 3).trans rfl⟩ (fun hHeld => ?_)
      clear hK K
      refine norm_ (a' := ?_) ?_ ?_
      rotate_left
      ·show Act.put _ (some 65) _ = _
       simp only [Act.put, List.setIfInBounds_toArray, List.set_cons_zero, List.set_cons_succ, i64_w, i32_w]
       rfl
      refine pure_ (i := 18) (N := some 66) (v := ?_) (a' := ?_) #[true, true, true, true, true, true, true, true, true, true, true, true, true, true, true, true, true, true, true, false, false, false] rfl rfl (any_of HT_.out (by kernel_rfl)) (fun _ _ _ h => h) (Or.inl ⟨zq84, ?_⟩) ?_ ?_
      rotate_left
      ·intro w'
       go_simp
       with_reducible rfl
      rotate_left
      ·simp only [Act.put, List.setIfInBounds_toArray, List.set_cons_zero, List.set_cons_succ, i64_w, i32_w]
       rfl
      refine pure_ (i := 19) (N := some 67) (v := ?_) (a' := ?_) #[true, true, true, true, true, true, true, true, true, true, true, true, true, true, true, true, true, true, true, true, false, false] rfl rfl (any_of HT_.out (by kernel_rfl)) (fun _ _ _ h => h) (Or.inl ⟨zq84, ?_⟩) ?_ ?_
      rotate_left
      ·intro w'
       go_simp
       with_reducible rfl
      rotate_left
      ·simp only [Act.put, List.setIfInBounds_toArray, List.set_cons_zero, List.set_cons_succ, i64_w, i32_w]
       rfl
      refine pure_ (i := 20) (N := some 68) (v := ?_) (a' := ?_) #[true, true, true, true, true, true, true, true, true, true, true, true, true, true, true, true, true, true, true, true, true, false] rfl rfl (any_of HT_.out (by kernel_rfl)) (fun _ _ _ h => h) (Or.inl ⟨zq84, ?_⟩) ?_ ?_
      rotate_left
      ·intro w'
       go_simp
       with_reducible rfl
      rotate_left
      ·simp only [Act.put, List.setIfInBounds_toArray, List.set_cons_zero, List.set_cons_succ, i64_w, i32_w]
       rfl
      refine pure_ (i := 21) (N := some 69) (v := ?_) (a' := ?_) #[true, true, true, true, true, true, true, true, true, true, true, true, true, true, true, true, true, true, true, true, true, true] rfl rfl (any_of HT_.out (by kernel_rfl)) (fun _ _ _ h => h) (Or.inl ⟨zq84, ?_⟩) ?_ ?_
      rotate_left
      ·intro w'
       go_simp
       with_reducible rfl
      rotate_left
      ·simp only [Act.put, List.setIfInBounds_toArray, List.set_cons_zero, List.set_cons_succ, i64_w, i32_w]
       rfl
      refine done_ (done_of HT_.out (by kernel_rfl)) ?_
      try go_wp2
      go_meet
      case rel => exact ⟨_, (!t749), zq10, H', ⟨zq132⟩, ⟨(by (with_reducible repeat (first | apply Kd.R_alloc | apply Kd.R_drewN | apply Kd.R_drew)); exact Kd.R_mono HO705.out (fun _ hk => hk.1.1.1))⟩, ⟨(by (with_reducible repeat (first | apply Kd.R_alloc | apply Kd.R_drewN | apply Kd.R_drew)); exact Kd.R_mono HO715.out (fun _ hk => hk.1.1.1))⟩, ⟨zq50⟩, ⟨zq85⟩, ⟨zq90⟩, ⟨zq16⟩, ⟨zq20⟩, ⟨zq26⟩, ⟨zq15⟩⟩
     ·replace c44 := Bool.eq_false_iff.mpr c44
      subst c44
      rw [if_neg zF] at H
      have H' := zA H
      clear H
      try go_wp2
      obtain ⟨w59, hW_⟩ : ∃ wz_, wz_ = ((((w33.setCell ⟨gb737, 0, none⟩ (.int .i64 t729)).setCell ⟨gb737, 1, none⟩ (.int .i64 t730)).setCell ⟨gb737, 2, none⟩ (.string t731)).setCell ⟨gb737, 3, none⟩ (.slice Ao37 t732.length co37)) := ⟨_, rfl⟩
      have n0_ : Aside0 (Kd.R (Kd.int .u8) 5 w59 w.heap.size (fun k_ => some k_ ≠ (v714 : Value).ownBlock ∧ some k_ ≠ (.slice Ao24 t716.length co24 : Value).ownBlock) (.slice Ao17 t703.length co17) t703) := ⟨zq106⟩
      have n1_ : Aside0 (Kd.R (Kd.int .i64) 3 w59 w.heap.size (fun k_ => some k_ ≠ (.slice Ao29 t723.length co29 : Value).ownBlock ∧ some k_ ≠ (.slice Ao37 t732.length co37 : Value).ownBlock) (.slice Ao13 t709.length co13) t709) := ⟨zq107⟩
      have n2_ : Aside0 (Kd.R (Kd.int .u8) 5 w59 w.heap.size (fun k_ => some k_ ≠ (.slice Ao17 t703.length co17 : Value).ownBlock ∧ some k_ ≠ (.slice Ao24 t716.length co24 : Value).ownBlock) v714 t713) := ⟨zq108⟩
      have n3_ : Aside0 (Kd.R (Kd.int .u8) 5 w59 w.heap.size (fun k_ => some k_ ≠ (.slice Ao17 t703.length co17 : Value).ownBlock ∧ some k_ ≠ (v714 : Value).ownBlock) (.slice Ao24 t716.length co24) t716) := ⟨zq109⟩
      have n4_ : Aside0 (Kd.R (Kd.int .i64) 3 w59 w.heap.size (fun k_ => some k_ ≠ (.slice Ao13 t709.length co13 : Value).ownBlock ∧ some k_ ≠ (.slice Ao37 t732.length co37 : Value).ownBlock) (.slice Ao29 t723.length co29) t723) := ⟨zq110⟩
      have n5_ : Aside0 (Kd.R (Kd.int .i64) 3 w59 w.heap.size (fun k_ => some k_ ≠ (.slice Ao13 t709.length co13 : Value).ownBlock ∧ some k_ ≠ (.slice Ao29 t723.length co29 : Value).ownBlock) (.slice Ao37 t732.length co37) t732) := ⟨zq111⟩
      have n6_ : Aside0 (w59.heap[gb712]? = some (.cells #[.int .i64 t706, .int .i64 t707, .string t708, .slice Ao13 t709.length co13] 76 (0, 0))) := ⟨zq185⟩
      have n7_ : Aside0 (w59.heap[gb728]? = some (.cells #[.int .i64 t720, .int .i64 t721, .string t722, .slice Ao29 t723.length co29] 76 (0, 0))) := ⟨zq186⟩
      have n8_ : Aside0 (w59.heap[gb737]? = some (.cells #[.int .i64 t729, .int .i64 t730, .string t731, .slice Ao37 t732.length co37] 76 (0, 0))) := ⟨zq47⟩
      have n9_ : Aside0 (Below w.heap.size w w59) := ⟨zq105⟩
      (try clear HO705)
      (try clear HO711)
      (try clear HO715)
      (try clear HO719)
      (try clear HO725)
      (try clear HO734)
      (try clear BK712)
      (try clear BK728)
      (try clear BK737)
      (try clear HB)
      rw [← hW_]; clear hW_
      have HO705 := n0_
      have HO711 := n1_
      have HO715 := n2_
      have HO719 := n3_
      have HO725 := n4_
      have HO734 := n5_
      have BK712 := n6_
      have BK728 := n7_
      have BK737 := n8_
      have HB := n9_
      clear n0_ n1_ n2_ n3_ n4_ n5_ n6_ n7_ n8_ n9_
      have n0_ := zA (Kd.R_drew HO705.out)
      have n1_ := zA (Kd.R_drew HO711.out)
      have n2_ := zA (Kd.R_drew HO715.out)
      have n3_ := zA (Kd.R_drew HO719.out)
      have n4_ := zA (Kd.R_drew HO725.out)
      have n5_ := zA (Kd.R_drew HO734.out)
      have n6_ := zA (blk_drew BK712.out)
      have n7_ := zA (blk_drew BK728.out)
      have n8_ := zA (blk_drew BK737.out)
      have n9_ := zA (below_drew1 HB.out)
      clear HO705
      clear HO711
      clear HO715
      clear HO719
      clear HO725
      clear HO734
      clear BK712
      clear BK728
      clear BK737
      clear HB
      have HO705 := n0_
      have HO711 := n1_
      have HO715 := n2_
      have HO719 := n3_
      have HO725 := n4_
      have HO734 := n5_
      have BK712 := n6_
      have BK728 := n7_
      have BK737 := n8_
      have HB := n9_
      clear n0_ n1_ n2_ n3_ n4_ n5_ n6_ n7_ n8_ n9_
      refine start_ (n := 22) (S := fun w' => w'.cell? ⟨gb728, 0, none⟩ = some (.int .i64 t720) ∧ w'.cell? ⟨gb728, 1, none⟩ = some (.int .i64 t721) ∧ w'.cell? ⟨gb728, 2, none⟩ = some (.string t722) ∧ w'.cell? ⟨gb728, 3, none⟩ = some (.slice Ao29 t723.length co29)) (ds := []) #[false, false, false, false, false, false, false, false, false, false, false, false, false, false, false, false, false, false, false, false, false, false] (by kernel_rfl) rfl rfl ⟨(blk_cell BK728.out 0).trans rfl, (blk_cell BK728.out 1).trans rfl, (blk_cell BK728.out 2).trans rfl, (blk_cell BK728.out 3).trans rfl⟩ (fun hHeld => ?_); refine with_tabW laws_FnVals.tab8 laws_FnVals.bits8 (fun HT_ HW_ => ?_)
      generalize w59.drew = w60 at HO705 HO711 HO715 HO719 HO725 HO734 BK712 BK728 BK737 HB hHeld ⊢
      refine pure_ (i := 0) (N := some 48) (v := ?_) (a' := ?_) #[true, false, false, false, false, false, false, false, false, false, false, false, false, false, false, false, false, false, false, false, false, false] rfl rfl (any_of HT_.out (by kernel_rfl)) (fun _ _ _ h => h) (Or.inl ⟨zq84, ?_⟩) ?_ ?_
      rotate_left
      ·intro w'
       go_simp
       with_reducible rfl
      rotate_left
      ·simp only [Act.put, List.setIfInBounds_toArray, List.set_cons_zero, List.set_cons_succ, i64_w, i32_w]
       rfl
      refine pure_ (i := 1) (N := some 49) (v := ?_) (a' := ?_) #[true, true, false, false, false, false, false, false, false, false, false, false, false, false, false, false, false, false, false, false, false, false] rfl rfl (any_of HT_.out (by kernel_rfl)) (fun _ _ _ h => h) (Or.inl ⟨zq84, ?_⟩) ?_ ?_
      rotate_left
      ·intro w'
       go_simp
       with_reducible rfl
      rotate_left
      ·simp only [Act.put, List.setIfInBounds_toArray, List.set_cons_zero, List.set_cons_succ, i64_w, i32_w]
       rfl
      refine pure_ (i := 2) (N := some 50) (v := ?_) (a' := ?_) #[true, true, true, false, false, false, false, false, false, false, false, false, false, false, false, false, false, false, false, false, false, false] rfl rfl (any_of HT_.out (by kernel_rfl)) (fun _ _ _ h => h) (Or.inl ⟨zq84, ?_⟩) ?_ ?_
      rotate_left
      ·intro w'
       go_simp
       with_reducible rfl
      rotate_left
      ·simp only [Act.put, List.setIfInBounds_toArray, List.set_cons_zero, List.set_cons_succ, i64_w, i32_w]
       rfl
      refine pure_ (i := 3) (N := some 51) (v := ?_) (a' := ?_) #[true, true, true, true, false, false, false, false, false, false, false, false, false, false, false, false, false, false, false, false, false, false] rfl rfl (any_of HT_.out (by kernel_rfl)) (fun _ _ _ h => h) (Or.inl ⟨zq84, ?_⟩) ?_ ?_
      rotate_left
      ·intro w'
       go_simp
       with_reducible rfl
      rotate_left
      ·simp only [Act.put, List.setIfInBounds_toArray, List.set_cons_zero, List.set_cons_succ, i64_w, i32_w]
       rfl
      refine pure_ (i := 4) (N := some 52) (v := ?_) (a' := ?_) #[true, true, true, true, true, false, false, false, false, false, false, false, false, false, false, false, false, false, false, false, false, false] rfl rfl (any_of HT_.out (by kernel_rfl)) (fun _ _ _ h => h) (Or.inl ⟨zq84, ?_⟩) ?_ ?_
      rotate_left
      ·intro w'
       go_simp
       with_reducible rfl
      rotate_left
      ·simp only [Act.put, List.setIfInBounds_toArray, List.set_cons_zero, List.set_cons_succ, i64_w, i32_w]
       rfl
      refine pure_ (i := 5) (N := some 53) (v := ?_) (a' := ?_) #[true, true, true, true, true, true, false, false, false, false, false, false, false, false, false, false, false, false, false, false, false, false] rfl rfl (any_of HT_.out (by kernel_rfl)) (fun _ _ _ h => h) (Or.inl ⟨zq84, ?_⟩) ?_ ?_
      rotate_left
      ·intro w'
       go_simp
       with_reducible rfl
      rotate_left
      ·simp only [Act.put, List.setIfInBounds_toArray, List.set_cons_zero, List.set_cons_succ, i64_w, i32_w]
       rfl
      refine take_ (i := 6) (N := some 54) (v := ?_) (a' := ?_) #[true, true, true, true, true, true, true, false, false, false, false, false, false, false, false, false, false, false, false, false, false, false] rfl rfl (take_ofW HT_.out HW_.out (by kernel_rfl)) (fun _ _ _ h => h) (Or.inl ⟨zq84, ?_⟩) hHeld ?_ ?_
      rotate_left
      ·rintro w' ⟨s0, s1, s2, s3⟩
       go_simp
       with_reducible rfl
      rotate_left
      ·simp only [Act.put, List.setIfInBounds_toArray, List.set_cons_zero, List.set_cons_succ, i64_w, i32_w]
       rfl
      refine one_ (i := 7) (N := some 55) #[true, true, true, true, true, true, true, true, false, false, false, false, false, false, false, false, false, false, false, false, false, false] rfl rfl (one_of HT_.out (by kernel_rfl)) zq39 (fun K hK => ?_)
      refine goes_ Try.func90 (by kernel_rfl) rfl #[.agg #[.int .i64 t720, .int .i64 t721, .string t722, .slice Ao29 t723.length co29]] zq84 rfl rfl zq1 ?_
      with_reducible refine (impl_ValOk.calls k t720 t721 t722 _ _ t723 false _ ?side1 ?side2 A43.out).mono ?_
      (case side1 => repeat (first | exact (Kd.R_reads' HO725.out).2.2 | (with_reducible refine Kd.C_alloc ?_ _) | (with_reducible refine Kd.C_drewN ?_ _) | (with_reducible refine Kd.C_drew ?_)))
      (case side2 => exact (Kd.R_reads' HO725.out).2.1)
      rintro e w61 ⟨rfl, hb⟩
      refine ⟨_, rfl, ?_⟩
      have n0_ := zA (Kd.R_below zq66 hb)
      have n1_ := zA (Kd.R_below zq50 hb)
      have n2_ := zA (Kd.R_below zq72 hb)
      have n3_ := zA (Kd.R_below zq89 hb)
      have n4_ := zA (Kd.R_below zq85 hb)
      have n5_ := zA (Kd.R_below zq90 hb)
      have n6_ := zA (blk_below (g := gb712) (o := .cells #[.int .i64 t706, .int .i64 t707, .string t708, .slice Ao13 t709.length co13] 76 (0, 0)) zq16 hb)
      have n7_ := zA (blk_below (g := gb728) (o := .cells #[.int .i64 t720, .int .i64 t721, .string t722, .slice Ao29 t723.length co29] 76 (0, 0)) zq20 hb)
      have n8_ := zA (blk_below (g := gb737) (o := .cells #[.int .i64 t729, .int .i64 t730, .string t731, .slice Ao37 t732.length co37] 76 (0, 0)) zq26 hb)
      have n9_ := zA (below_step zq15 hb)
      clear HO705
      clear HO711
      clear HO715
      clear HO719
      clear HO725
      clear HO734
      clear BK712
      clear BK728
      clear BK737
      clear HB
      have HO705 := n0_
      have HO711 := n1_
      have HO715 := n2_
      have HO719 := n3_
      have HO725 := n4_
      have HO734 := n5_
      have BK712 := n6_
      have BK728 := n7_
      have BK737 := n8_
      have HB := n9_
      clear n0_ n1_ n2_ n3_ n4_ n5_ n6_ n7_ n8_ n9_
      (try clear hb)
      (try clear hb2)
      (try clear hk)
      (try clear hi)
      refine hK.out _ _ ⟨(blk_cell BK728.out 0).trans rfl, (blk_cell BK728.out 1).trans rfl, (blk_cell BK728.out 2).trans rfl, (blk_cell BK728.out 3).trans rfl⟩ (fun hHeld => ?_)
      clear hK K
      refine norm_ (a' := ?_) ?_ ?_
      rotate_left
      ·show Act.put _ (some 55) _ = _
       simp only [Act.put, List.setIfInBounds_toArray, List.set_cons_zero, List.set_cons_succ, i64_w, i32_w]
       rfl
      refine pure_ (i := 8) (N := some 56) (v := ?_) (a' := ?_) #[true, true, true, true, true, true, true, true, true, false, false, false, false, false, false, false, false, false, false, false, false, false] rfl rfl (any_of HT_.out (by kernel_rfl)) (fun _ _ _ h => h) (Or.inl ⟨zq84, ?_⟩) ?_ ?_
      rotate_left
      ·intro w'
       go_simp
       with_reducible rfl
      rotate_left
      ·simp only [Act.put, List.setIfInBounds_toArray, List.set_cons_zero, List.set_cons_succ, i64_w, i32_w]
       rfl
      refine pure_ (i := 9) (N := some 57) (v := ?_) (a' := ?_) #[true, true, true, true, true, true, true, true, true, true, false, false, false, false, false, false, false, false, false, false, false, false] rfl rfl (any_of HT_.out (by kernel_rfl)) (fun _ _ _ h => h) (Or.inl ⟨zq84, ?_⟩) ?_ ?_
      rotate_left
      ·intro w'
       go_simp
       with_reducible rfl
      rotate_left
      ·simp only [Act.put, List.setIfInBounds_toArray, List.set_cons_zero, List.set_cons_succ, i64_w, i32_w]
       rfl
      refine pure_ (i := 10) (N := some 58) (v := undef) (a' := ?_) #[true, true, true, true, true, true, true, true, true, true, true, false, false, false, false, false, false, false, false, false, false, false] rfl rfl (any_of HT_.out (by kernel_rfl)) (fun _ _ _ h => h) (Or.inr ⟨zq84, rfl⟩) ?_ ?_
      rotate_left
      ·simp only [Act.put, List.setIfInBounds_toArray, List.set_cons_zero, List.set_cons_succ, i64_w, i32_w]
       rfl
      refine pure_ (i := 11) (N := some 59) (v := undef) (a' := ?_) #[true, true, true, true, true, true, true, true, true, true, true, true, false, false, false, false, false, false, false, false, false, false] rfl rfl (any_of HT_.out (by kernel_rfl)) (fun _ _ _ h => h) (Or.inr ⟨zq84, rfl⟩) ?_ ?_
      rotate_left
      ·simp only [Act.put, List.setIfInBounds_toArray, List.set_cons_zero, List.set_cons_succ, i64_w, i32_w]
       rfl
      refine pure_ (i := 12) (N := some 60) (v := undef) (a' := ?_) #[true, true, true, true, true, true, true, true, true, true, true, true, true, false, false, false, false, false, false, false, false, false] rfl rfl (any_of HT_.out (by kernel_rfl)) (fun _ _ _ h => h) (Or.inr ⟨zq84, rfl⟩) ?_ ?_
      rotate_left
      ·simp only [Act.put, List.setIfInBounds_toArray, List.set_cons_zero, List.set_cons_succ, i64_w, i32_w]
       rfl
      refine pure_ (i := 13) (N := some 61) (v := undef) (a' := ?_) #[true, true, true, true, true, true, true, true, true, true, true, true, true, true, false, false, false, false, false, false, false, false] rfl rfl (any_of HT_.out (by kernel_rfl)) (fun _ _ _ h => h) (Or.inr ⟨zq84, rfl⟩) ?_ ?_
      rotate_left
      ·simp only [Act.put, List.setIfInBounds_toArray, List.set_cons_zero, List.set_cons_succ, i64_w, i32_w]
       rfl
      refine pure_ (i := 14) (N := some 62) (v := undef) (a' := ?_) #[true, true, true, true, true, true, true, true, true, true, true, true, true, true, true, false, false, false, false, false, false, false] rfl rfl (any_of HT_.out (by kernel_rfl)) (fun _ _ _ h => h) (Or.inr ⟨zq84, rfl⟩) ?_ ?_
      rotate_left
      ·simp only [Act.put, List.setIfInBounds_toArray, List.set_cons_zero, List.set_cons_succ, i64_w, i32_w]
       rfl
      refine pure_ (i := 15) (N := some 63) (v := undef) (a' := ?_) #[true, true, true, true, true, true, true, true, true, true, true, true, true, true, true, true, false, false, false, false, false, false] rfl rfl (any_of HT_.out (by kernel_rfl)) (fun _ _ _ h => h) (Or.inr ⟨zq84, rfl⟩) ?_ ?_
      rotate_left
      ·simp only [Act.put, List.setIfInBounds_toArray, List.set_cons_zero, List.set_cons_succ, i64_w, i32_w]
       rfl
      refine pure_ (i := 16) (N := some 64) (v := undef) (a' := ?_) #[true, true, true, true, true, true, true, true, true, true, true, true, true, true, true, true, true, false, false, false, false, false] rfl rfl (any_of HT_.out (by kernel_rfl)) (fun _ _ _ h => h) (Or.inr ⟨zq84, rfl⟩) ?_ ?_
      rotate_left
      ·simp only [Act.put, List.setIfInBounds_toArray, List.set_cons_zero, List.set_cons_succ, i64_w, i32_w]
       rfl
      refine pure_ (i := 17) (N := some 65) (v := undef) (a' := ?_) #[true, true, true, true, true, true, true, true, true, true, true, true, true, true, true, true, true, true, false, false, false, false] rfl rfl (any_of HT_.out (by kernel_rfl)) (fun _ _ _ h => h) (Or.inr ⟨zq84, rfl⟩) ?_ ?_
      rotate_left
      ·simp only [Act.put, List.setIfInBounds_toArray, List.set_cons_zero, List.set_cons_succ, i64_w, i32_w]
       rfl
      refine pure_ (i := 18) (N := some 66) (v := undef) (a' := ?_) #[true, true, true, true, true, true, true, true, true, true, true, true, true, true, true, true, true, true, true, false, false, false] rfl rfl (any_of HT_.out (by kernel_rfl)) (fun _ _ _ h => h) (Or.inr ⟨zq84, rfl⟩) ?_ ?_
      rotate_left
      ·simp only [Act.put, List.setIfInBounds_toArray, List.set_cons_zero, List.set_cons_succ, i64_w, i32_w]
       rfl
      refine pure_ (i := 19) (N := some 67) (v := ?_) (a' := ?_) #[true, true, true, true, true, true, true, true, true, true, true, true, true, true, true, true, true, true, true, true, false, false] rfl rfl (any_of HT_.out (by kernel_rfl)) (fun _ _ _ h => h) (Or.inl ⟨zq84, ?_⟩) ?_ ?_
      rotate_left
      ·intro w'
       go_simp
       with_reducible rfl
      rotate_left
      ·simp only [Act.put, List.setIfInBounds_toArray, List.set_cons_zero, List.set_cons_succ, i64_w, i32_w]
       rfl
      refine pure_ (i := 20) (N := some 68) (v := ?_) (a' := ?_) #[true, true, true, true, true, true, true, true, true, true, true, true, true, true, true, true, true, true, true, true, true, false] rfl rfl (any_of HT_.out (by kernel_rfl)) (fun _ _ _ h => h) (Or.inl ⟨zq84, ?_⟩) ?_ ?_
      rotate_left
      ·intro w'
       go_simp
       with_reducible rfl
      rotate_left
      ·simp only [Act.put, List.setIfInBounds_toArray, List.set_cons_zero, List.set_cons_succ, i64_w, i32_w]
       rfl
      refine pure_ (i := 21) (N := some 69) (v := ?_) (a' := ?_) #[true, true, true, true, true, true, true, true, true, true, true, true, true, true, true, true, true, true, true, true, true, true] rfl rfl (any_of HT_.out (by kernel_rfl)) (fun _ _ _ h => h) (Or.inl ⟨zq84, ?_⟩) ?_ ?_
      rotate_left
      ·intro w'
       go_simp
       with_reducible rfl
      rotate_left
      ·simp only [Act.put, List.setIfInBounds_toArray, List.set_cons_zero, List.set_cons_succ, i64_w, i32_w]
       rfl
      refine done_ (done_of HT_.out (by kernel_rfl)) ?_
      try go_wp2
      go_meet
      case rel => exact ⟨_, (true), zq10, H', ⟨zq132⟩, ⟨zq169⟩, ⟨zq170⟩, ⟨zq50⟩, ⟨zq85⟩, ⟨zq90⟩, ⟨zq16⟩, ⟨zq20⟩, ⟨zq26⟩, ⟨zq15⟩⟩
    ·replace c42 := Bool.eq_false_iff.mpr c42
     subst c42
     rw [if_neg zF] at H
     have H' := zA H
     clear H
     try go_wp2
     obtain ⟨w62, hW_⟩ : ∃ wz_, wz_ = ((((w33.setCell ⟨gb737, 0, none⟩ (.int .i64 t729)).setCell ⟨gb737, 1, none⟩ (.int .i64 t730)).setCell ⟨gb737, 2, none⟩ (.string t731)).setCell ⟨gb737, 3, none⟩ (.slice Ao37 t732.length co37)) := ⟨_, rfl⟩
     have n0_ : Aside0 (Kd.R (Kd.int .u8) 5 w62 w.heap.size (fun k_ => some k_ ≠ (v714 : Value).ownBlock ∧ some k_ ≠ (.slice Ao24 t716.length co24 : Value).ownBlock) (.slice Ao17 t703.length co17) t703) := ⟨zq106⟩
     have n1_ : Aside0 (Kd.R (Kd.int .i64) 3 w62 w.heap.size (fun k_ => some k_ ≠ (.slice Ao29 t723.length co29 : Value).ownBlock ∧ some k_ ≠ (.slice Ao37 t732.length co37 : Value).ownBlock) (.slice Ao13 t709.length co13) t709) := ⟨zq107⟩
     have n2_ : Aside0 (Kd.R (Kd.int .u8) 5 w62 w.heap.size (fun k_ => some k_ ≠ (.slice Ao17 t703.length co17 : Value).ownBlock ∧ some k_ ≠ (.slice Ao24 t716.length co24 : Value).ownBlock) v714 t713) := ⟨zq108⟩
     have n3_ : Aside0 (Kd.R (Kd.int .u8) 5 w62 w.heap.size (fun k_ => some k_ ≠ (.slice Ao17 t703.length co17 : Value).ownBlock ∧ some k_ ≠ (v714 : Value).ownBlock) (.slice Ao24 t716.length co24) t716) := ⟨zq109⟩
     have n4_ : Aside0 (Kd.R (Kd.int .i64) 3 w62 w.heap.size (fun k_ => some k_ ≠ (.slice Ao13 t709.length co13 : Value).ownBlock ∧ some k_ ≠ (.slice Ao37 t732.length co37 : Value).ownBlock) (.slice Ao29 t723.length co29) t723) := ⟨zq110⟩
     have n5_ : Aside0 (Kd.R (Kd.int .i64) 3 w62 w.heap.size (fun k_ => some k_ ≠ (.slice Ao13 t709.length co13 : Value).ownBlock ∧ some k_ ≠ (.slice Ao29 t723.length co29 : Value).ownBlock) (.slice Ao37 t732.length co37) t732) := ⟨zq111⟩
     have n6_ : Aside0 (w62.heap[gb712]? = some (.cells #[.int .i64 t706, .int .i64 t707, .string t708, .slice Ao13 t709.length co13] 76 (0, 0))) := ⟨zq185⟩
     have n7_ : Aside0 (w62.heap[gb728]? = some (.cells #[.int .i64 t720, .int .i64 t721, .string t722, .slice Ao29 t723.length co29] 76 (0, 0))) := ⟨zq186⟩
     have n8_ : Aside0 (w62.heap[gb737]? = some (.cells #[.int .i64 t729, .int .i64 t730, .string t731, .slice Ao37 t732.length co37] 76 (0, 0))) := ⟨zq47⟩
     have n9_ : Aside0 (Below w.heap.size w w62) := ⟨zq105⟩
     (try clear HO705)
     (try clear HO711)
     (try clear HO715)
     (try clear HO719)
     (try clear HO725)
     (try clear HO734)
     (try clear BK712)
     (try clear BK728)
     (try clear BK737)
     (try clear HB)
     rw [← hW_]; clear hW_
     have HO705 := n0_
     have HO711 := n1_
     have HO715 := n2_
     have HO719 := n3_
     have HO725 := n4_
     have HO734 := n5_
     have BK712 := n6_
     have BK728 := n7_
     have BK737 := n8_
     have HB := n9_
     clear n0_ n1_ n2_ n3_ n4_ n5_ n6_ n7_ n8_ n9_
     have n0_ := zA (Kd.R_drew HO705.out)
     have n1_ := zA (Kd.R_drew HO711.out)
     have n2_ := zA (Kd.R_drew HO715.out)
     have n3_ := zA (Kd.R_drew HO719.out)
     have n4_ := zA (Kd.R_drew HO725.out)
     have n5_ := zA (Kd.R_drew HO734.out)
     have n6_ := zA (blk_drew BK712.out)
     have n7_ := zA (blk_drew BK728.out)
     have n8_ := zA (blk_drew BK737.out)
     have n9_ := zA (below_drew1 HB.out)
     clear HO705
     clear HO711
     clear HO715
     clear HO719
     clear HO725
     clear HO734
     clear BK712
     clear BK728
     clear BK737
     clear HB
     have HO705 := n0_
     have HO711 := n1_
     have HO715 := n2_
     have HO719 := n3_
     have HO725 := n4_
     have HO734 := n5_
     have BK712 := n6_
     have BK728 := n7_
     have BK737 := n8_
     have HB := n9_
     clear n0_ n1_ n2_ n3_ n4_ n5_ n6_ n7_ n8_ n9_
     refine start_ (n := 22) (S := fun w' => True) (ds := []) #[false, false, false, false, false, false, false, false, false, false, false, false, false, false, false, false, false, false, false, false, false, false] (by kernel_rfl) rfl rfl trivial (fun hHeld => ?_); refine with_tabW laws_FnVals.tab8 laws_FnVals.bits8 (fun HT_ HW_ => ?_)
     generalize w62.drew = w63 at HO705 HO711 HO715 HO719 HO725 HO734 BK712 BK728 BK737 HB hHeld ⊢
     refine pure_ (i := 0) (N := some 48) (v := ?_) (a' := ?_) #[true, false, false, false, false, false, false, false, false, false, false, false, false, false, false, false, false, false, false, false, false, false] rfl rfl (any_of HT_.out (by kernel_rfl)) (fun _ _ _ h => h) (Or.inl ⟨zq84, ?_⟩) ?_ ?_
     rotate_left
     ·intro w'
      go_simp
      with_reducible rfl
     rotate_left
     ·simp only [Act.put, List.setIfInBounds_toArray, List.set_cons_zero, List.set_cons_succ, i64_w, i32_w]
      rfl
     refine pure_ (i := 1) (N := some 49) (v := ?_) (a' := ?_) #[true, true, false, false, false, false, false, false, false, false, false, false, false, false, false, false, false, false, false, false, false, false] rfl rfl (any_of HT_.out (by kernel_rfl)) (fun _ _ _ h => h) (Or.inl ⟨zq84, ?_⟩) ?_ ?_
     rotate_left
     ·intro w'
      go_simp
      with_reducible rfl
     rotate_left
     ·simp only [Act.put, List.setIfInBounds_toArray, List.set_cons_zero, List.set_cons_succ, i64_w, i32_w]
      rfl
     refine pure_ (i := 2) (N := some 50) (v := ?_) (a' := ?_) #[true, true, true, false, false, false, false, false, false, false, false, false, false, false, false, false, false, false, false, false, false, false] rfl rfl (any_of HT_.out (by kernel_rfl)) (fun _ _ _ h => h) (Or.inl ⟨zq84, ?_⟩) ?_ ?_
     rotate_left
     ·intro w'
      go_simp
      with_reducible rfl
     rotate_left
     ·simp only [Act.put, List.setIfInBounds_toArray, List.set_cons_zero, List.set_cons_succ, i64_w, i32_w]
      rfl
     refine pure_ (i := 3) (N := some 51) (v := ?_) (a' := ?_) #[true, true, true, true, false, false, false, false, false, false, false, false, false, false, false, false, false, false, false, false, false, false] rfl rfl (any_of HT_.out (by kernel_rfl)) (fun _ _ _ h => h) (Or.inl ⟨zq84, ?_⟩) ?_ ?_
     rotate_left
     ·intro w'
      go_simp
      with_reducible rfl
     rotate_left
     ·simp only [Act.put, List.setIfInBounds_toArray, List.set_cons_zero, List.set_cons_succ, i64_w, i32_w]
      rfl
     refine pure_ (i := 4) (N := some 52) (v := ?_) (a' := ?_) #[true, true, true, true, true, false, false, false, false, false, false, false, false, false, false, false, false, false, false, false, false, false] rfl rfl (any_of HT_.out (by kernel_rfl)) (fun _ _ _ h => h) (Or.inl ⟨zq84, ?_⟩) ?_ ?_
     rotate_left
     ·intro w'
      go_simp
      with_reducible rfl
     rotate_left
     ·simp only [Act.put, List.setIfInBounds_toArray, List.set_cons_zero, List.set_cons_succ, i64_w, i32_w]
      rfl
     refine pure_ (i := 5) (N := some 53) (v := ?_) (a' := ?_) #[true, true, true, true, true, true, false, false, false, false, false, false, false, false, false, false, false, false, false, false, false, false] rfl rfl (any_of HT_.out (by kernel_rfl)) (fun _ _ _ h => h) (Or.inl ⟨zq84, ?_⟩) ?_ ?_
     rotate_left
     ·intro w'
      go_simp
      with_reducible rfl
     rotate_left
     ·simp only [Act.put, List.setIfInBounds_toArray, List.set_cons_zero, List.set_cons_succ, i64_w, i32_w]
      rfl
     refine pure_ (i := 6) (N := some 54) (v := undef) (a' := ?_) #[true, true, true, true, true, true, true, false, false, false, false, false, false, false, false, false, false, false, false, false, false, false] rfl rfl (any_of HT_.out (by kernel_rfl)) (fun _ _ _ h => h) (Or.inr ⟨zq84, rfl⟩) ?_ ?_
     rotate_left
     ·simp only [Act.put, List.setIfInBounds_toArray, List.set_cons_zero, List.set_cons_succ, i64_w, i32_w]
      rfl
     refine pure_ (i := 7) (N := some 55) (v := undef) (a' := ?_) #[true, true, true, true, true, true, true, true, false, false, false, false, false, false, false, false, false, false, false, false, false, false] rfl rfl (any_of HT_.out (by kernel_rfl)) (fun _ _ _ h => h) (Or.inr ⟨zq84, rfl⟩) ?_ ?_
     rotate_left
     ·simp only [Act.put, List.setIfInBounds_toArray, List.set_cons_zero, List.set_cons_succ, i64_w, i32_w]
      rfl
     refine pure_ (i := 8) (N := some 56) (v := undef) (a' := ?_) #[true, true, true, true, true, true, true, true, true, false, false, false, false, false, false, false, false, false, false, false, false, false] rfl rfl (any_of HT_.out (by kernel_rfl)) (fun _ _ _ h => h) (Or.inr ⟨zq84, rfl⟩) ?_ ?_
     rotate_left
     ·simp only [Act.put, List.setIfInBounds_toArray, List.set_cons_zero, List.set_cons_succ, i64_w, i32_w]
      rfl
     refine pure_ (i := 9) (N := some 57) (v := undef) (a' := ?_) #[true, true, true, true, true, true, true, true, true, true, false, false, false, false, false, false, false, false, false, false, false, false] rfl rfl (any_of HT_.out (by kernel_rfl)) (fun _ _ _ h => h) (Or.inr ⟨zq84, rfl⟩) ?_ ?_
     rotate_left
     ·simp only [Act.put, List.setIfInBounds_toArray, List.set_cons_zero, List.set_cons_succ, i64_w, i32_w]
      rfl
     refine pure_ (i := 10) (N := some 58) (v := undef) (a' := ?_) #[true, true, true, true, true, true, true, true, true, true, true, false, false, false, false, false, false, false, false, false, false, false] rfl rfl (any_of HT_.out (by kernel_rfl)) (fun _ _ _ h => h) (Or.inr ⟨zq84, rfl⟩) ?_ ?_
     rotate_left
     ·simp only [Act.put, List.setIfInBounds_toArray, List.set_cons_zero, List.set_cons_succ, i64_w, i32_w]
      rfl
     refine pure_ (i := 11) (N := some 59) (v := undef) (a' := ?_) #[true, true, true, true, true, true, true, true, true, true, true, true, false, false, false, false, false, false, false, false, false, false] rfl rfl (any_of HT_.out (by kernel_rfl)) (fun _ _ _ h => h) (Or.inr ⟨zq84, rfl⟩) ?_ ?_
     rotate_left
     ·simp only [Act.put, List.setIfInBounds_toArray, List.set_cons_zero, List.set_cons_succ, i64_w, i32_w]
      rfl
     refine pure_ (i := 12) (N := some 60) (v := undef) (a' := ?_) #[true, true, true, true, true, true, true, true, true, true, true, true, true, false, false, false, false, false, false, false, false, false] rfl rfl (any_of HT_.out (by kernel_rfl)) (fun _ _ _ h => h) (Or.inr ⟨zq84, rfl⟩) ?_ ?_
     rotate_left
     ·simp only [Act.put, List.setIfInBounds_toArray, List.set_cons_zero, List.set_cons_succ, i64_w, i32_w]
      rfl
     refine pure_ (i := 13) (N := some 61) (v := undef) (a' := ?_) #[true, true, true, true, true, true, true, true, true, true, true, true, true, true, false, false, false, false, false, false, false, false] rfl rfl (any_of HT_.out (by kernel_rfl)) (fun _ _ _ h => h) (Or.inr ⟨zq84, rfl⟩) ?_ ?_
     rotate_left
     ·simp only [Act.put, List.setIfInBounds_toArray, List.set_cons_zero, List.set_cons_succ, i64_w, i32_w]
      rfl
     refine pure_ (i := 14) (N := some 62) (v := undef) (a' := ?_) #[true, true, true, true, true, true, true, true, true, true, true, true, true, true, true, false, false, false, false, false, false, false] rfl rfl (any_of HT_.out (by kernel_rfl)) (fun _ _ _ h => h) (Or.inr ⟨zq84, rfl⟩) ?_ ?_
     rotate_left
     ·simp only [Act.put, List.setIfInBounds_toArray, List.set_cons_zero, List.set_cons_succ, i64_w, i32_w]
      rfl
     refine pure_ (i := 15) (N := some 63) (v := undef) (a' := ?_) #[true, true, true, true, true, true, true, true, true, true, true, true, true, true, true, true, false, false, false, false, false, false] rfl rfl (any_of HT_.out (by kernel_rfl)) (fun _ _ _ h => h) (Or.inr ⟨zq84, rfl⟩) ?_ ?_
     rotate_left
     ·simp only [Act.put, List.setIfInBounds_toArray, List.set_cons_zero, List.set_cons_succ, i64_w, i32_w]
      rfl
     refine pure_ (i := 16) (N := some 64) (v := undef) (a' := ?_) #[true, true, true, true, true, true, true, true, true, true, true, true, true, true, true, true, true, false, false, false, false, false] rfl rfl (any_of HT_.out (by kernel_rfl)) (fun _ _ _ h => h) (Or.inr ⟨zq84, rfl⟩) ?_ ?_
     rotate_left
     ·simp only [Act.put, List.setIfInBounds_toArray, List.set_cons_zero, List.set_cons_succ, i64_w, i32_w]
      rfl
     refine pure_ (i := 17) (N := some 65) (v := undef) (a' := ?_) #[true, true, true, true, true, true, true, true, true, true, true, true, true, true, true, true, true, true, false, false, false, false] rfl rfl (any_of HT_.out (by kernel_rfl)) (fun _ _ _ h => h) (Or.inr ⟨zq84, rfl⟩) ?_ ?_
     rotate_left
     ·simp only [Act.put, List.setIfInBounds_toArray, List.set_cons_zero, List.set_cons_succ, i64_w, i32_w]
      rfl
     refine pure_ (i := 18) (N := some 66) (v := undef) (a' := ?_) #[true, true, true, true, true, true, true, true, true, true, true, true, true, true, true, true, true, true, true, false, false, false] rfl rfl (any_of HT_.out (by kernel_rfl)) (fun _ _ _ h => h) (Or.inr ⟨zq84, rfl⟩) ?_ ?_
     rotate_left
     ·simp only [Act.put, List.setIfInBounds_toArray, List.set_cons_zero, List.set_cons_succ, i64_w, i32_w]
      rfl
     refine pure_ (i := 19) (N := some 67) (v := undef) (a' := ?_) #[true, true, true, true, true, true, true, true, true, true, true, true, true, true, true, true, true, true, true, true, false, false] rfl rfl (any_of HT_.out (by kernel_rfl)) (fun _ _ _ h => h) (Or.inr ⟨zq84, rfl⟩) ?_ ?_
     rotate_left
     ·simp only [Act.put, List.setIfInBounds_toArray, List.set_cons_zero, List.set_cons_succ, i64_w, i32_w]
      rfl
     refine pure_ (i := 20) (N := some 68) (v := ?_) (a' := ?_) #[true, true, true, true, true, true, true, true, true, true, true, true, true, true, true, true, true, true, true, true, true, false] rfl rfl (any_of HT_.out (by kernel_rfl)) (fun _ _ _ h => h) (Or.inl ⟨zq84, ?_⟩) ?_ ?_
     rotate_left
     ·intro w'
      go_simp
      with_reducible rfl
     rotate_left
     ·simp only [Act.put, List.setIfInBounds_toArray, List.set_cons_zero, List.set_cons_succ, i64_w, i32_w]
      rfl
     refine pure_ (i := 21) (N := some 69) (v := ?_) (a' := ?_) #[true, true, true, true, true, true, true, true, true, true, true, true, true, true, true, true, true, true, true, true, true, true] rfl rfl (any_of HT_.out (by kernel_rfl)) (fun _ _ _ h => h) (Or.inl ⟨zq84, ?_⟩) ?_ ?_
     rotate_left
     ·intro w'
      go_simp
      with_reducible rfl
     rotate_left
     ·simp only [Act.put, List.setIfInBounds_toArray, List.set_cons_zero, List.set_cons_succ, i64_w, i32_w]
      rfl
     refine done_ (done_of HT_.out (by kernel_rfl)) ?_
     try go_wp2
     go_meet
     case rel => exact ⟨_, (false), zq10, H', ⟨zq132⟩, ⟨zq169⟩, ⟨zq170⟩, ⟨zq50⟩, ⟨zq85⟩, ⟨zq90⟩, ⟨zq16⟩, ⟨zq20⟩, ⟨zq26⟩, ⟨zq15⟩⟩
  case rest =>
   clear HC38
   try clear c2
   try clear p2
   try clear c4
   try clear c5
   try clear c7
   try clear c9
   try clear c25
   try clear c42
   try clear c44
   try clear c53
   obtain ⟨kq, x69_37, rfl, HA, HJ37, HO_3, HO_5, HO_713003, HO_729003, HO_738003, BK712, BK728, BK737, HB⟩ := hcut
   cases kq with
   | zero => exact absurd HA.out (by simp [laws_FnVals.j0])
   | succ kj37 =>
    have H := HA.out
    clear HA
    simp only [laws_FnVals.j0] at H
    by_cases c64 : x69_37 = true
    ·subst c64
     rw [if_pos rfl] at H
     have HC65 := zA H
     clear H
     go_upto_region 9 with (fail)
     have H := HC65.out
     clear HC65
     exact absurd H zq134
    ·replace c64 := Bool.eq_false_iff.mpr c64
     subst c64
     rw [if_neg zF] at H
     have HC66 := zA H
     clear H
     go_upto_region 10 with (fail)
     have H := HC66.out
     clear HC66
     obtain ⟨t750, A67, H⟩ := zB H
     try dsimp only at H
     by_cases c68 : t750 = true
     ·subst c68
      rw [if_pos rfl] at H
      have HC69 := zA H
      clear H
      have hnb70 := NB712_728.out
      have hnc70 := NB728_712.out
      have hnb71 := NB712_737.out
      have hnc71 := NB737_712.out
      have hcz72_0 : wc.cell? ⟨gb712, 0, none⟩ = some (.int .i64 t706) := (blk_cell BK712.out 0).trans rfl
      have hcz72_1 : wc.cell? ⟨gb712, 1, none⟩ = some (.int .i64 t707) := (blk_cell BK712.out 1).trans rfl
      have hcz72_2 : wc.cell? ⟨gb712, 2, none⟩ = some (.string t708) := (blk_cell BK712.out 2).trans rfl
      have hcz72_3 : wc.cell? ⟨gb712, 3, none⟩ = some (.slice Ao13 t709.length co13) := (blk_cell BK712.out 3).trans rfl
      have hfz72_0 := blk_frozen BK712.out 0
      have hfz72_1 := blk_frozen BK712.out 1
      have hfz72_2 := blk_frozen BK712.out 2
      have hfz72_3 := blk_frozen BK712.out 3
      go_upto_region 12 with (first | ((with_reducible refine gate_callee (f := 91) rfl ?_); refine goesL_ (some 71) rfl rfl Try.func91 (by kernel_rfl) rfl #[.agg #[.int .i64 t706, .int .i64 t707, .string t708, .slice Ao13 t709.length co13]] rfl zq1 ?_; (with_reducible refine (spec_ValOk.calls kj37 t706 t707 t708 _ _ t709 true _ ?side1 ?side2 A67.out).mono ?_); (case side1 => repeat (first | exact (Kd.R_reads' HO_713003.out).2.2 | (with_reducible refine Kd.C_alloc ?_ _) | (with_reducible refine Kd.C_drewN ?_ _) | (with_reducible refine Kd.C_drew ?_))); (case side2 => exact (Kd.R_reads' HO_713003.out).2.1); rintro e w73 ⟨rfl, hb⟩; refine ⟨_, rfl, ?_⟩; replace HO_3 := zA (Kd.R_below zq14 hb); replace HO_5 := zA (Kd.R_below zq51 hb); replace HO_713003 := zA (Kd.R_below zq60 hb); replace HO_729003 := zA (Kd.R_below zq61 hb); replace HO_738003 := zA (Kd.R_below zq62 hb); replace BK712 := zA (blk_below (g := gb712) (o := .cells #[.int .i64 t706, .int .i64 t707, .string t708, .slice Ao13 t709.length co13] 76 (0, 0)) zq16 hb); replace BK728 := zA (blk_below (g := gb728) (o := .cells #[.int .i64 t720, .int .i64 t721, .string t722, .slice Ao29 t723.length co29] 76 (0, 0)) zq20 hb); replace BK737 := zA (blk_below (g := gb737) (o := .cells #[.int .i64 t729, .int .i64 t730, .string t731, .slice Ao37 t732.length co37] 76 (0, 0)) zq26 hb); replace HB := zA (below_step zq15 hb); clear hb))
      (try simp only [Act.put, List.setIfInBounds_toArray, List.set_cons_zero, List.set_cons_succ])
      have H := HC69.out
      clear HC69
      obtain ⟨⟨t753, t754, t755, t756, t759, t760⟩, A74, H⟩ := zB H
      try dsimp only at H
      have HC75 := zA H
      clear H
      obtain ⟨Ao76, co76, eo76⟩ := Kd.R_slice HO_5.out
      subst eo76
      go_upto_region 13 with (first | ((with_reducible refine gate_callee (f := 88) rfl ?_); refine goesL_ (some 85) rfl rfl Try.func88 (by kernel_rfl) rfl #[.slice Ao76 t713.length co76, .int .i64 (t703.length : Int)] rfl zq1 ?_; (with_reducible refine (impl_GetVal.calls kj37 _ _ t713 (t703.length : Int) t753 t754 t755 t756 t759 t760 _ ?side1 ?side2 A74.out).mono ?_); (case side1 => repeat (first | exact (Kd.R_reads' HO_5.out).2.2 | (with_reducible refine Kd.C_alloc ?_ _) | (with_reducible refine Kd.C_drewN ?_ _) | (with_reducible refine Kd.C_drew ?_))); (case side2 => exact (Kd.R_reads' HO_5.out).2.1); rintro e w77 ⟨v757, rfl, ho0, hb⟩; refine ⟨_, rfl, ?_⟩; replace HO_3 := zA (Kd.R_below zq14 hb); replace HO_5 := zA (Kd.R_below zq51 hb); have HO758 := zA (Kd.R_lower (Kd.R_new' (Kd.R_new' (Kd.R_new' ho0 (Kd.R_lt zq60)) (Kd.R_lt zq61)) (Kd.R_lt zq62)) (below_size zq15)); replace HO_713003 := zA (Kd.R_elder' zq60 (Kd.R_base ho0) hb); replace HO_729003 := zA (Kd.R_elder' zq61 (Kd.R_base ho0) hb); replace HO_738003 := zA (Kd.R_elder' zq62 (Kd.R_base ho0) hb); replace BK712 := zA (blk_below (g := gb712) (o := .cells #[.int .i64 t706, .int .i64 t707, .string t708, .slice Ao13 t709.length co13] 76 (0, 0)) zq16 hb); replace BK728 := zA (blk_below (g := gb728) (o := .cells #[.int .i64 t720, .int .i64 t721, .string t722, .slice Ao29 t723.length co29] 76 (0, 0)) zq20 hb); replace BK737 := zA (blk_below (g := gb737) (o := .cells #[.int .i64 t729, .int .i64 t730, .string t731, .slice Ao37 t732.length co37] 76 (0, 0)) zq26 hb); replace HB := zA (below_step zq15 hb); clear hb ho0) | ((with_reducible refine gate_dst (N := 14) rfl ?_); (try (refine gate_guard zq84 ?_; dsimp only)); refine box_event ?hg (N := 14) ?hd (cs := #[.int .i64 0, .int .i64 0, .string (⟨#[]⟩ : ByteArray), .slice none 0 0]) (t := 76) ?hr ?_; (case hd => rfl); (case hg => rfl); (case hr => first | (go_simp; done) | (go_simp; rfl)); intro gb761 hg w78 hbox hb; replace HO_3 := zA (Kd.R_below zq14 hb); replace HO_5 := zA (Kd.R_below zq51 hb); replace HO_713003 := zA (Kd.R_below zq60 hb); replace HO_729003 := zA (Kd.R_below zq61 hb); replace HO_738003 := zA (Kd.R_below zq62 hb); replace HO758 := zA (Kd.R_below zq119 hb); have BK761 := zA (hbox); have GW761 := zA ((zq171 : w.heap.size ≤ gb761)); have GE761 := zA ((zq171 : w.heap.size ≤ gb761)); replace HB := zA (below_step zq15 hb); have NB712_761 := zA ((zq68 : gb712 ≠ gb761)); have NB761_712 := zA ((zq69 : gb761 ≠ gb712)); replace BK712 := zA (blk_below (g := gb712) (o := .cells #[.int .i64 t706, .int .i64 t707, .string t708, .slice Ao13 t709.length co13] 76 (0, 0)) zq16 hb); have NB728_761 := zA ((zq92 : gb728 ≠ gb761)); have NB761_728 := zA ((zq93 : gb761 ≠ gb728)); replace BK728 := zA (blk_below (g := gb728) (o := .cells #[.int .i64 t720, .int .i64 t721, .string t722, .slice Ao29 t723.length co29] 76 (0, 0)) zq20 hb); have NB737_761 := zA ((zq126 : gb737 ≠ gb761)); have NB761_737 := zA ((zq127 : gb761 ≠ gb737)); replace BK737 := zA (blk_below (g := gb737) (o := .cells #[.int .i64 t729, .int .i64 t730, .string t731, .slice Ao37 t732.length co37] 76 (0, 0)) zq26 hb); clear hb hbox hg; have hnb79 := NB761_712.out; have hnc79 := NB712_761.out; have hnb80 := NB761_728.out; have hnc80 := NB728_761.out; have hnb81 := NB761_737.out; have hnc81 := NB737_761.out; have hcz82_0 : w78.cell? ⟨gb761, 0, none⟩ = some (.int .i64 0) := (blk_cell BK761.out 0).trans rfl; have hcz82_1 : w78.cell? ⟨gb761, 1, none⟩ = some (.int .i64 0) := (blk_cell BK761.out 1).trans rfl; have hcz82_2 : w78.cell? ⟨gb761, 2, none⟩ = some (.string (⟨#[]⟩ : ByteArray)) := (blk_cell BK761.out 2).trans rfl; have hcz82_3 : w78.cell? ⟨gb761, 3, none⟩ = some (.slice none 0 0) := (blk_cell BK761.out 3).trans rfl; have hfz82_0 := blk_frozen BK761.out 0; have hfz82_1 := blk_frozen BK761.out 1; have hfz82_2 := blk_frozen BK761.out 2; have hfz82_3 := blk_frozen BK761.out 3; obtain ⟨Ao83, co83, eo83⟩ := Kd.R_slice HO758.out; subst eo83))
      (try simp only [Act.put, List.setIfInBounds_toArray, List.set_cons_zero, List.set_cons_succ])
      have H := HC75.out
      clear HC75
      obtain ⟨⟨t762, t763, t764, t765, t768, t769, t770, t771⟩, A84, H⟩ := zB H
      try dsimp only at H
      have HC85 := zA H
      clear H
      go_upto_region 14 with (first | ((with_reducible refine gate_callee (f := 92) rfl ?_); refine goesL_ (some 91) rfl rfl Try.func92 (by kernel_rfl) rfl #[.slice A0 l0.length c0] rfl zq1 ?_; (with_reducible refine (spec_DrawSameVal.calls kj37 _ _ l0 t762 t763 t764 t765 t768 t769 t770 t771 _ ?side1 ?side2 A84.out).mono ?_); (case side1 => exact Kd.C_below HR0.out zq41); (case side2 => exact HC0.out); rintro e w86 ⟨v766, v772, rfl, ho0, ho1, hb⟩; refine ⟨_, rfl, ?_⟩; have HO767 := zA (Kd.V_lower (Kd.V_mono (ok' := fun k_ => some k_ ≠ (.slice Ao17 t703.length co17 : Value).ownBlock ∧ some k_ ≠ (.slice Ao76 t713.length co76 : Value).ownBlock ∧ some k_ ≠ (.slice Ao13 t709.length co13 : Value).ownBlock ∧ some k_ ≠ (.slice Ao29 t723.length co29 : Value).ownBlock ∧ some k_ ≠ (.slice Ao37 t732.length co37 : Value).ownBlock ∧ some k_ ≠ (.slice Ao83 t756.length co83 : Value).ownBlock ∧ k_ ≠ gb712 ∧ k_ ≠ gb728 ∧ k_ ≠ gb737 ∧ k_ ≠ gb761) ho0 (fun k_ hk_ => ⟨(Kd.fresh' (Kd.R_lt zq82) k_ hk_), (Kd.fresh' (Kd.R_lt zq83) k_ hk_), (Kd.fresh' (Kd.R_lt zq76) k_ hk_), (Kd.fresh' (Kd.R_lt zq77) k_ hk_), (Kd.fresh' (Kd.R_lt zq78) k_ hk_), (Kd.fresh' (Kd.R_lt zq80) k_ hk_), (Kd.freshB (g := gb712) (o := .cells #[.int .i64 t706, .int .i64 t707, .string t708, .slice Ao13 t709.length co13] 76 (0, 0)) zq53 k_ hk_), (Kd.freshB (g := gb728) (o := .cells #[.int .i64 t720, .int .i64 t721, .string t722, .slice Ao29 t723.length co29] 76 (0, 0)) zq54 k_ hk_), (Kd.freshB (g := gb737) (o := .cells #[.int .i64 t729, .int .i64 t730, .string t731, .slice Ao37 t732.length co37] 76 (0, 0)) zq55 k_ hk_), (Kd.freshB (g := gb761) (o := .cells #[.int .i64 t753, .int .i64 t754, .string t755, .slice Ao83 t756.length co83] 76 (0, 0)) zq36 k_ hk_)⟩)) (below_size zq41)); have HO773 := zA (Kd.V_lower (Kd.V_mono (ok' := fun k_ => some k_ ≠ (.slice Ao17 t703.length co17 : Value).ownBlock ∧ some k_ ≠ (.slice Ao76 t713.length co76 : Value).ownBlock ∧ some k_ ≠ (.slice Ao13 t709.length co13 : Value).ownBlock ∧ some k_ ≠ (.slice Ao29 t723.length co29 : Value).ownBlock ∧ some k_ ≠ (.slice Ao37 t732.length co37 : Value).ownBlock ∧ some k_ ≠ (.slice Ao83 t756.length co83 : Value).ownBlock ∧ k_ ≠ gb712 ∧ k_ ≠ gb728 ∧ k_ ≠ gb737 ∧ k_ ≠ gb761) ho1 (fun k_ hk_ => ⟨(Kd.fresh' (Kd.R_lt zq82) k_ hk_), (Kd.fresh' (Kd.R_lt zq83) k_ hk_), (Kd.fresh' (Kd.R_lt zq76) k_ hk_), (Kd.fresh' (Kd.R_lt zq77) k_ hk_), (Kd.fresh' (Kd.R_lt zq78) k_ hk_), (Kd.fresh' (Kd.R_lt zq80) k_ hk_), (Kd.freshB (g := gb712) (o := .cells #[.int .i64 t706, .int .i64 t707, .string t708, .slice Ao13 t709.length co13] 76 (0, 0)) zq53 k_ hk_), (Kd.freshB (g := gb728) (o := .cells #[.int .i64 t720, .int .i64 t721, .string t722, .slice Ao29 t723.length co29] 76 (0, 0)) zq54 k_ hk_), (Kd.freshB (g := gb737) (o := .cells #[.int .i64 t729, .int .i64 t730, .string t731, .slice Ao37 t732.length co37] 76 (0, 0)) zq55 k_ hk_), (Kd.freshB (g := gb761) (o := .cells #[.int .i64 t753, .int .i64 t754, .string t755, .slice Ao83 t756.length co83] 76 (0, 0)) zq36 k_ hk_)⟩)) (below_size zq41)); replace HO_3 := zA (Kd.R_below zq82 hb); replace HO_5 := zA (Kd.R_below zq83 hb); replace HO_713003 := zA (Kd.R_below zq76 hb); replace HO_729003 := zA (Kd.R_below zq77 hb); replace HO_738003 := zA (Kd.R_below zq78 hb); replace HO758 := zA (Kd.R_below zq80 hb); replace BK712 := zA (blk_below (g := gb712) (o := .cells #[.int .i64 t706, .int .i64 t707, .string t708, .slice Ao13 t709.length co13] 76 (0, 0)) zq53 hb); replace BK728 := zA (blk_below (g := gb728) (o := .cells #[.int .i64 t720, .int .i64 t721, .string t722, .slice Ao29 t723.length co29] 76 (0, 0)) zq54 hb); replace BK737 := zA (blk_below (g := gb737) (o := .cells #[.int .i64 t729, .int .i64 t730, .string t731, .slice Ao37 t732.length co37] 76 (0, 0)) zq55 hb); replace BK761 := zA (blk_below (g := gb761) (o := .cells #[.int .i64 t753, .int .i64 t754, .string t755, .slice Ao83 t756.length co83] 76 (0, 0)) zq36 hb); replace HB := zA (below_step zq41 hb); clear hb ho0 ho1) | ((with_reducible refine gate_dst (N := 17) rfl ?_); (try (refine gate_guard zq84 ?_; dsimp only)); refine box_event ?hg (N := 17) ?hd (cs := #[.int .i64 0, .int .i64 0, .string (⟨#[]⟩ : ByteArray), .slice none 0 0]) (t := 76) ?hr ?_; (case hd => rfl); (case hg => rfl); (case hr => first | (go_simp; done) | (go_simp; rfl)); intro gb774 hg w87 hbox hb; replace HO_3 := zA (Kd.R_below zq14 hb); replace HO_5 := zA (Kd.R_below zq51 hb); replace HO_713003 := zA (Kd.R_below zq60 hb); replace HO_729003 := zA (Kd.R_below zq61 hb); replace HO_738003 := zA (Kd.R_below zq62 hb); replace HO758 := zA (Kd.R_below zq119 hb); replace HO767 := zA (Kd.V_below (Kd.V_elderB zq128 gb774 (Nat.le_of_eq hg.symm)) hb); replace HO773 := zA (Kd.V_below (Kd.V_elderB zq129 gb774 (Nat.le_of_eq hg.symm)) hb); have BK774 := zA (hbox); have GW774 := zA ((zq162 : w.heap.size ≤ gb774)); have GE774 := zA ((zq162 : w.heap.size ≤ gb774)); replace HB := zA (below_step zq41 hb); have NB712_774 := zA ((zq68 : gb712 ≠ gb774)); have NB774_712 := zA ((zq69 : gb774 ≠ gb712)); replace BK712 := zA (blk_below (g := gb712) (o := .cells #[.int .i64 t706, .int .i64 t707, .string t708, .slice Ao13 t709.length co13] 76 (0, 0)) zq16 hb); have NB728_774 := zA ((zq92 : gb728 ≠ gb774)); have NB774_728 := zA ((zq93 : gb774 ≠ gb728)); replace BK728 := zA (blk_below (g := gb728) (o := .cells #[.int .i64 t720, .int .i64 t721, .string t722, .slice Ao29 t723.length co29] 76 (0, 0)) zq20 hb); have NB737_774 := zA ((zq126 : gb737 ≠ gb774)); have NB774_737 := zA ((zq127 : gb774 ≠ gb737)); replace BK737 := zA (blk_below (g := gb737) (o := .cells #[.int .i64 t729, .int .i64 t730, .string t731, .slice Ao37 t732.length co37] 76 (0, 0)) zq26 hb); have NB761_774 := zA ((zq166 : gb761 ≠ gb774)); have NB774_761 := zA ((zq167 : gb774 ≠ gb761)); replace BK761 := zA (blk_below (g := gb761) (o := .cells #[.int .i64 t753, .int .i64 t754, .string t755, .slice Ao83 t756.length co83] 76 (0, 0)) zq71 hb); clear hb hbox hg) | ((with_reducible refine gate_dst (N := 18) rfl ?_); (try (refine gate_guard zq84 ?_; dsimp only)); refine box_event ?hg (N := 18) ?hd (cs := #[.int .i64 0, .int .i64 0, .string (⟨#[]⟩ : ByteArray), .slice none 0 0]) (t := 76) ?hr ?_; (case hd => rfl); (case hg => rfl); (case hr => first | (go_simp; done) | (go_simp; rfl)); intro gb775 hg w88 hbox hb; replace HO_3 := zA (Kd.R_below zq14 hb); replace HO_5 := zA (Kd.R_below zq51 hb); replace HO_713003 := zA (Kd.R_below zq60 hb); replace HO_729003 := zA (Kd.R_below zq61 hb); replace HO_738003 := zA (Kd.R_below zq62 hb); replace HO758 := zA (Kd.R_below zq119 hb); replace HO767 := zA (Kd.V_below (Kd.V_elderB zq128 gb775 (Nat.le_of_eq hg.symm)) hb); replace HO773 := zA (Kd.V_below (Kd.V_elderB zq129 gb775 (Nat.le_of_eq hg.symm)) hb); have BK775 := zA (hbox); have GW775 := zA ((zq160 : w.heap.size ≤ gb775)); have GE775 := zA ((zq160 : w.heap.size ≤ gb775)); replace HB := zA (below_step zq123 hb); have NB712_775 := zA ((zq68 : gb712 ≠ gb775)); have NB775_712 := zA ((zq69 : gb775 ≠ gb712)); replace BK712 := zA (blk_below (g := gb712) (o := .cells #[.int .i64 t706, .int .i64 t707, .string t708, .slice Ao13 t709.length co13] 76 (0, 0)) zq16 hb); have NB728_775 := zA ((zq92 : gb728 ≠ gb775)); have NB775_728 := zA ((zq93 : gb775 ≠ gb728)); replace BK728 := zA (blk_below (g := gb728) (o := .cells #[.int .i64 t720, .int .i64 t721, .string t722, .slice Ao29 t723.length co29] 76 (0, 0)) zq20 hb); have NB737_775 := zA ((zq126 : gb737 ≠ gb775)); have NB775_737 := zA ((zq127 : gb775 ≠ gb737)); replace BK737 := zA (blk_below (g := gb737) (o := .cells #[.int .i64 t729, .int .i64 t730, .string t731, .slice Ao37 t732.length co37] 76 (0, 0)) zq26 hb); have NB761_775 := zA ((zq166 : gb761 ≠ gb775)); have NB775_761 := zA ((zq167 : gb775 ≠ gb761)); replace BK761 := zA (blk_below (g := gb761) (o := .cells #[.int .i64 t753, .int .i64 t754, .string t755, .slice Ao83 t756.length co83] 76 (0, 0)) zq71 hb); have NB774_775 := zA ((by rw [hg]; exact Nat.ne_of_lt (blk_lt (g := gb774) (o := .cells #[.int .i64 0, .int .i64 0, .string (⟨#[]⟩ : ByteArray), .slice none 0 0] 76 (0, 0)) zq112) : gb774 ≠ gb775)); have NB775_774 := zA ((by rw [hg]; exact Nat.ne_of_gt (blk_lt (g := gb774) (o := .cells #[.int .i64 0, .int .i64 0, .string (⟨#[]⟩ : ByteArray), .slice none 0 0] 76 (0, 0)) zq112) : gb775 ≠ gb774)); replace BK774 := zA (blk_below (g := gb774) (o := .cells #[.int .i64 0, .int .i64 0, .string (⟨#[]⟩ : ByteArray), .slice none 0 0] 76 (0, 0)) zq112 hb); clear hb hbox hg; have hnb89 := NB774_712.out; have hnc89 := NB712_774.out; have hnb90 := NB774_728.out; have hnc90 := NB728_774.out; have hnb91 := NB774_737.out; have hnc91 := NB737_774.out; have hnb92 := NB774_761.out; have hnc92 := NB761_774.out; have hnb93 := NB774_775.out; have hnc93 := NB775_774.out; have hcz94_0 : w88.cell? ⟨gb774, 0, none⟩ = some (.int .i64 0) := (blk_cell BK774.out 0).trans rfl; have hcz94_1 : w88.cell? ⟨gb774, 1, none⟩ = some (.int .i64 0) := (blk_cell BK774.out 1).trans rfl; have hcz94_2 : w88.cell? ⟨gb774, 2, none⟩ = some (.string (⟨#[]⟩ : ByteArray)) := (blk_cell BK774.out 2).trans rfl; have hcz94_3 : w88.cell? ⟨gb774, 3, none⟩ = some (.slice none 0 0) := (blk_cell BK774.out 3).trans rfl; have hfz94_0 := blk_frozen BK774.out 0; have hfz94_1 := blk_frozen BK774.out 1; have hfz94_2 := blk_frozen BK774.out 2; have hfz94_3 := blk_frozen BK774.out 3; obtain ⟨Ao95, co95, eo95⟩ := Kd.V_slice HO767.out; subst eo95; have hnb96 := NB775_712.out; have hnc96 := NB712_775.out; have hnb97 := NB775_728.out; have hnc97 := NB728_775.out; have hnb98 := NB775_737.out; have hnc98 := NB737_775.out; have hnb99 := NB775_761.out; have hnc99 := NB761_775.out; have hcz100_0 : w88.cell? ⟨gb775, 0, none⟩ = some (.int .i64 0) := (blk_cell BK775.out 0).trans rfl; have hcz100_1 : w88.cell? ⟨gb775, 1, none⟩ = some (.int .i64 0) := (blk_cell BK775.out 1).trans rfl; have hcz100_2 : w88.cell? ⟨gb775, 2, none⟩ = some (.string (⟨#[]⟩ : ByteArray)) := (blk_cell BK775.out 2).trans rfl; have hcz100_3 : w88.cell? ⟨gb775, 3, none⟩ = some (.slice none 0 0) := (blk_cell BK775.out 3).trans rfl; have hfz100_0 := blk_frozen BK775.out 0; have hfz100_1 := blk_frozen BK775.out 1; have hfz100_2 := blk_frozen BK775.out 2; have hfz100_3 := blk_frozen BK775.out 3; obtain ⟨Ao101, co101, eo101⟩ := Kd.V_slice HO773.out; subst eo101))
      (try simp only [Act.put, List.setIfInBounds_toArray, List.set_cons_zero, List.set_cons_succ])
      have H := HC85.out
      clear HC85
      by_cases c102 : t760 = true
      ·subst c102
       rw [if_pos rfl] at H
       obtain ⟨t776, A103, H⟩ := zB H
       try dsimp only at H
       by_cases c104 : t776 = true
       ·subst c104
        rw [if_pos rfl] at H
        by_cases c105 : t759 = (t713.length : Int)
        ·rw [if_pos c105] at H
         have c105b0 : (t759 == (t713.length : Int)) = true := beq_iff_eq.mpr c105
         have c105b1 : (t759 != (t713.length : Int)) = false := bne_eq_false_iff_eq.mpr c105
         clear c105
         obtain ⟨t777, A106, H⟩ := zB H
         try dsimp only at H
         by_cases c107 : t777 = true
         ·subst c107
          rw [if_pos rfl] at H
          obtain ⟨t778, A108, H⟩ := zB H
          try dsimp only at H
          obtain ⟨t779, A109, H⟩ := zB H
          try dsimp only at H
          obtain rfl := Option.some.inj H
          try go_wp2
          obtain ⟨w110, hW_⟩ : ∃ wz_, wz_ = ((((((((w88.setCell ⟨gb774, 0, none⟩ (.int .i64 t762)).setCell ⟨gb774, 1, none⟩ (.int .i64 t763)).setCell ⟨gb774, 2, none⟩ (.string t764)).setCell ⟨gb774, 3, none⟩ (.slice Ao95 t765.length co95)).setCell ⟨gb775, 0, none⟩ (.int .i64 t768)).setCell ⟨gb775, 1, none⟩ (.int .i64 t769)).setCell ⟨gb775, 2, none⟩ (.string t770)).setCell ⟨gb775, 3, none⟩ (.slice Ao101 t771.length co101)) := ⟨_, rfl⟩
          have n0_ : Aside0 (Kd.R (Kd.int .u8) 5 w110 w.heap.size (fun k_ => some k_ ≠ (.slice Ao76 t713.length co76 : Value).ownBlock) (.slice Ao17 t703.length co17) t703) := ⟨(by subst hW_; exact Kd.R_mono (Kd.R_far (Kd.R_far (Kd.R_far (Kd.R_far (Kd.R_far (Kd.R_far (Kd.R_far (Kd.R_far (Kd.R_types (Kd.R_types HO_3.out BK774.out zq39) BK775.out zq39) (fun _ hk => hk.1.2) _) (fun _ hk => hk.1.2) _) (fun _ hk => hk.1.2) _) (fun _ hk => hk.1.2) _) (fun _ hk => hk.2) _) (fun _ hk => hk.2) _) (fun _ hk => hk.2) _) (fun _ hk => hk.2) _) (fun _ hk => hk.1.1))⟩
          have n1_ : Aside0 (Kd.R (Kd.int .u8) 5 w110 w.heap.size (fun k_ => some k_ ≠ (.slice Ao17 t703.length co17 : Value).ownBlock) (.slice Ao76 t713.length co76) t713) := ⟨(by subst hW_; exact Kd.R_mono (Kd.R_far (Kd.R_far (Kd.R_far (Kd.R_far (Kd.R_far (Kd.R_far (Kd.R_far (Kd.R_far (Kd.R_types (Kd.R_types HO_5.out BK774.out zq39) BK775.out zq39) (fun _ hk => hk.1.2) _) (fun _ hk => hk.1.2) _) (fun _ hk => hk.1.2) _) (fun _ hk => hk.1.2) _) (fun _ hk => hk.2) _) (fun _ hk => hk.2) _) (fun _ hk => hk.2) _) (fun _ hk => hk.2) _) (fun _ hk => hk.1.1))⟩
          have n2_ : Aside0 (Kd.R (Kd.int .i64) 3 w110 w.heap.size (fun k_ => some k_ ≠ (.slice Ao29 t723.length co29 : Value).ownBlock ∧ some k_ ≠ (.slice Ao37 t732.length co37 : Value).ownBlock ∧ some k_ ≠ (.slice Ao83 t756.length co83 : Value).ownBlock) (.slice Ao13 t709.length co13) t709) := ⟨(by subst hW_; exact Kd.R_mono (Kd.R_far (Kd.R_far (Kd.R_far (Kd.R_far (Kd.R_far (Kd.R_far (Kd.R_far (Kd.R_far (Kd.R_types (Kd.R_types HO_713003.out BK774.out zq39) BK775.out zq39) (fun _ hk => hk.1.2) _) (fun _ hk => hk.1.2) _) (fun _ hk => hk.1.2) _) (fun _ hk => hk.1.2) _) (fun _ hk => hk.2) _) (fun _ hk => hk.2) _) (fun _ hk => hk.2) _) (fun _ hk => hk.2) _) (fun _ hk => ⟨hk.1.1.1.1, ⟨hk.1.1.1.2, hk.1.1.2⟩⟩))⟩
          have n3_ : Aside0 (Kd.R (Kd.int .i64) 3 w110 w.heap.size (fun k_ => some k_ ≠ (.slice Ao13 t709.length co13 : Value).ownBlock ∧ some k_ ≠ (.slice Ao37 t732.length co37 : Value).ownBlock ∧ some k_ ≠ (.slice Ao83 t756.length co83 : Value).ownBlock) (.slice Ao29 t723.length co29) t723) := ⟨(by subst hW_; exact Kd.R_mono (Kd.R_far (Kd.R_far (Kd.R_far (Kd.R_far (Kd.R_far (Kd.R_far (Kd.R_far (Kd.R_far (Kd.R_types (Kd.R_types HO_729003.out BK774.out zq39) BK775.out zq39) (fun _ hk => hk.1.2) _) (fun _ hk => hk.1.2) _) (fun _ hk => hk.1.2) _) (fun _ hk => hk.1.2) _) (fun _ hk => hk.2) _) (fun _ hk => hk.2) _) (fun _ hk => hk.2) _) (fun _ hk => hk.2) _) (fun _ hk => ⟨hk.1.1.1.1, ⟨hk.1.1.1.2, hk.1.1.2⟩⟩))⟩
          have n4_ : Aside0 (Kd.R (Kd.int .i64) 3 w110 w.heap.size (fun k_ => some k_ ≠ (.slice Ao13 t709.length co13 : Value).ownBlock ∧ some k_ ≠ (.slice Ao29 t723.length co29 : Value).ownBlock ∧ some k_ ≠ (.slice Ao83 t756.length co83 : Value).ownBlock) (.slice Ao37 t732.length co37) t732) := ⟨(by subst hW_; exact Kd.R_mono (Kd.R_far (Kd.R_far (Kd.R_far (Kd.R_far (Kd.R_far (Kd.R_far (Kd.R_far (Kd.R_far (Kd.R_types (Kd.R_types HO_738003.out BK774.out zq39) BK775.out zq39) (fun _ hk => hk.1.2) _) (fun _ hk => hk.1.2) _) (fun _ hk => hk.1.2) _) (fun _ hk => hk.1.2) _) (fun _ hk => hk.2) _) (fun _ hk => hk.2) _) (fun _ hk => hk.2) _) (fun _ hk => hk.2) _) (fun _ hk => ⟨hk.1.1.1.1, ⟨hk.1.1.1.2, hk.1.1.2⟩⟩))⟩
          have n5_ : Aside0 (Kd.R (Kd.int .i64) 3 w110 w.heap.size (fun k_ => some k_ ≠ (.slice Ao13 t709.length co13 : Value).ownBlock ∧ some k_ ≠ (.slice Ao29 t723.length co29 : Value).ownBlock ∧ some k_ ≠ (.slice Ao37 t732.length co37 : Value).ownBlock) (.slice Ao83 t756.length co83) t756) := ⟨(by subst hW_; exact Kd.R_mono (Kd.R_far (Kd.R_far (Kd.R_far (Kd.R_far (Kd.R_far (Kd.R_far (Kd.R_far (Kd.R_far (Kd.R_types (Kd.R_types HO758.out BK774.out zq39) BK775.out zq39) (fun _ hk => hk.1.2) _) (fun _ hk => hk.1.2) _) (fun _ hk => hk.1.2) _) (fun _ hk => hk.1.2) _) (fun _ hk => hk.2) _) (fun _ hk => hk.2) _) (fun _ hk => hk.2) _) (fun _ hk => hk.2) _) (fun _ hk => ⟨hk.1.1.1.1.2, ⟨hk.1.1.1.2, hk.1.1.2⟩⟩))⟩
          have n6_ : Aside0 (Kd.V (Kd.int .i64) 3 w110 w.heap.size (fun k_ => some k_ ≠ (.slice Ao17 t703.length co17 : Value).ownBlock ∧ some k_ ≠ (.slice Ao76 t713.length co76 : Value).ownBlock ∧ some k_ ≠ (.slice Ao13 t709.length co13 : Value).ownBlock ∧ some k_ ≠ (.slice Ao29 t723.length co29 : Value).ownBlock ∧ some k_ ≠ (.slice Ao37 t732.length co37 : Value).ownBlock ∧ some k_ ≠ (.slice Ao83 t756.length co83 : Value).ownBlock ∧ k_ ≠ gb712 ∧ k_ ≠ gb728 ∧ k_ ≠ gb737 ∧ k_ ≠ gb761 ∧ k_ ≠ gb774 ∧ k_ ≠ gb775) (.slice Ao95 t765.length co95) t765) := ⟨(by subst hW_; exact Kd.V_mono (Kd.V_far (Kd.V_far (Kd.V_far (Kd.V_far (Kd.V_far (Kd.V_far (Kd.V_far (Kd.V_far (Kd.V_mono (Kd.V_mono HO767.out (fun k_ hk => (⟨hk, hk.1.2⟩ : _ ∧ k_ ≠ gb774))) (fun k_ hk => (⟨hk, hk.1.2⟩ : _ ∧ k_ ≠ gb775))) (fun _ hk => hk.1.2) _) (fun _ hk => hk.1.2) _) (fun _ hk => hk.1.2) _) (fun _ hk => hk.1.2) _) (fun _ hk => hk.2) _) (fun _ hk => hk.2) _) (fun _ hk => hk.2) _) (fun _ hk => hk.2) _) (fun _ hk => ⟨hk.1.1.1.1.1, ⟨hk.1.1.1.1.2.1, ⟨hk.1.1.1.1.2.2.1, ⟨hk.1.1.1.1.2.2.2.1, ⟨hk.1.1.1.1.2.2.2.2.1, ⟨hk.1.1.1.1.2.2.2.2.2.1, ⟨hk.1.1.1.1.2.2.2.2.2.2.1, ⟨hk.1.1.1.1.2.2.2.2.2.2.2.1, ⟨hk.1.1.1.1.2.2.2.2.2.2.2.2.1, ⟨hk.1.1.1.1.2.2.2.2.2.2.2.2.2, ⟨hk.1.1.1.2, hk.1.1.2⟩⟩⟩⟩⟩⟩⟩⟩⟩⟩⟩))⟩
          have n7_ : Aside0 (Kd.V (Kd.int .i64) 3 w110 w.heap.size (fun k_ => some k_ ≠ (.slice Ao17 t703.length co17 : Value).ownBlock ∧ some k_ ≠ (.slice Ao76 t713.length co76 : Value).ownBlock ∧ some k_ ≠ (.slice Ao13 t709.length co13 : Value).ownBlock ∧ some k_ ≠ (.slice Ao29 t723.length co29 : Value).ownBlock ∧ some k_ ≠ (.slice Ao37 t732.length co37 : Value).ownBlock ∧ some k_ ≠ (.slice Ao83 t756.length co83 : Value).ownBlock ∧ k_ ≠ gb712 ∧ k_ ≠ gb728 ∧ k_ ≠ gb737 ∧ k_ ≠ gb761 ∧ k_ ≠ gb774 ∧ k_ ≠ gb775) (.slice Ao101 t771.length co101) t771) := ⟨(by subst hW_; exact Kd.V_mono (Kd.V_far (Kd.V_far (Kd.V_far (Kd.V_far (Kd.V_far (Kd.V_far (Kd.V_far (Kd.V_far (Kd.V_mono (Kd.V_mono HO773.out (fun k_ hk => (⟨hk, hk.1.2⟩ : _ ∧ k_ ≠ gb774))) (fun k_ hk => (⟨hk, hk.1.2⟩ : _ ∧ k_ ≠ gb775))) (fun _ hk => hk.1.2) _) (fun _ hk => hk.1.2) _) (fun _ hk => hk.1.2) _) (fun _ hk => hk.1.2) _) (fun _ hk => hk.2) _) (fun _ hk => hk.2) _) (fun _ hk => hk.2) _) (fun _ hk => hk.2) _) (fun _ hk => ⟨hk.1.1.1.1.1, ⟨hk.1.1.1.1.2.1, ⟨hk.1.1.1.1.2.2.1, ⟨hk.1.1.1.1.2.2.2.1, ⟨hk.1.1.1.1.2.2.2.2.1, ⟨hk.1.1.1.1.2.2.2.2.2.1, ⟨hk.1.1.1.1.2.2.2.2.2.2.1, ⟨hk.1.1.1.1.2.2.2.2.2.2.2.1, ⟨hk.1.1.1.1.2.2.2.2.2.2.2.2.1, ⟨hk.1.1.1.1.2.2.2.2.2.2.2.2.2, ⟨hk.1.1.1.2, hk.1.1.2⟩⟩⟩⟩⟩⟩⟩⟩⟩⟩⟩))⟩
          have n8_ : Aside0 (w110.heap[gb712]? = some (.cells #[.int .i64 t706, .int .i64 t707, .string t708, .slice Ao13 t709.length co13] 76 (0, 0))) := ⟨(by subst hW_; (iterate 4 (refine blk_far ?_ NB712_775.out _)); (iterate 4 (refine blk_far ?_ NB712_774.out _)); exact BK712.out)⟩
          have n9_ : Aside0 (w110.heap[gb728]? = some (.cells #[.int .i64 t720, .int .i64 t721, .string t722, .slice Ao29 t723.length co29] 76 (0, 0))) := ⟨(by subst hW_; (iterate 4 (refine blk_far ?_ NB728_775.out _)); (iterate 4 (refine blk_far ?_ NB728_774.out _)); exact BK728.out)⟩
          have n10_ : Aside0 (w110.heap[gb737]? = some (.cells #[.int .i64 t729, .int .i64 t730, .string t731, .slice Ao37 t732.length co37] 76 (0, 0))) := ⟨(by subst hW_; (iterate 4 (refine blk_far ?_ NB737_775.out _)); (iterate 4 (refine blk_far ?_ NB737_774.out _)); exact BK737.out)⟩
          have n11_ : Aside0 (w110.heap[gb761]? = some (.cells #[.int .i64 t753, .int .i64 t754, .string t755, .slice Ao83 t756.length co83] 76 (0, 0))) := ⟨(by subst hW_; (iterate 4 (refine blk_far ?_ NB761_775.out _)); (iterate 4 (refine blk_far ?_ NB761_774.out _)); exact BK761.out)⟩
          have n12_ : Aside0 (w110.heap[gb774]? = some (.cells #[.int .i64 t762, .int .i64 t763, .string t764, .slice Ao95 t765.length co95] 76 (0, 0))) := ⟨(by subst hW_; (iterate 4 (refine blk_far ?_ NB774_775.out _)); refine blk_put (cs := #[.int .i64 t762, .int .i64 t763, .string t764, .slice none 0 0]) ?_ 3 _ rfl; refine blk_put (cs := #[.int .i64 t762, .int .i64 t763, .string (⟨#[]⟩ : ByteArray), .slice none 0 0]) ?_ 2 _ rfl; refine blk_put (cs := #[.int .i64 t762, .int .i64 0, .string (⟨#[]⟩ : ByteArray), .slice none 0 0]) ?_ 1 _ rfl; refine blk_put (cs := #[.int .i64 0, .int .i64 0, .string (⟨#[]⟩ : ByteArray), .slice none 0 0]) ?_ 0 _ rfl; exact BK774.out)⟩
          have n13_ : Aside0 (w110.heap[gb775]? = some (.cells #[.int .i64 t768, .int .i64 t769, .string t770, .slice Ao101 t771.length co101] 76 (0, 0))) := ⟨(by subst hW_; refine blk_put (cs := #[.int .i64 t768, .int .i64 t769, .string t770, .slice none 0 0]) ?_ 3 _ rfl; refine blk_put (cs := #[.int .i64 t768, .int .i64 t769, .string (⟨#[]⟩ : ByteArray), .slice none 0 0]) ?_ 2 _ rfl; refine blk_put (cs := #[.int .i64 t768, .int .i64 0, .string (⟨#[]⟩ : ByteArray), .slice none 0 0]) ?_ 1 _ rfl; refine blk_put (cs := #[.int .i64 0, .int .i64 0, .string (⟨#[]⟩ : ByteArray), .slice none 0 0]) ?_ 0 _ rfl; (iterate 4 (refine blk_far ?_ NB775_774.out _)); exact BK775.out)⟩
          have n14_ : Aside0 (Below w.heap.size w w110) := ⟨(by subst hW_; repeat (first | (with_reducible first | exact HB.out | apply below_alloc | apply pw_below_drewN | apply below_drew1 | refine below_set ?_ GE712.out | refine below_set ?_ GE728.out | refine below_set ?_ GE737.out | refine below_set ?_ GE761.out | refine below_set ?_ GE774.out | refine below_set ?_ GE775.out) | exact HB.out))⟩
          (try clear HO_3)
          (try clear HO_5)
          (try clear HO_713003)
          (try clear HO_729003)
          (try clear HO_738003)
          (try clear HO758)
          (try clear HO767)
          (try clear HO773)
          (try clear BK712)
          (try clear BK728)
          (try clear BK737)
          (try clear BK761)
          (try clear BK774)
          (try clear BK775)
          (try clear HB)
          rw [← hW_]; clear hW_
          have HO_3 := n0_
          have HO_5 := n1_
          have HO_713003 := n2_
          have HO_729003 := n3_
          have HO_738003 := n4_
          have HO758 := n5_
          have HO767 := n6_
          have HO773 := n7_
          have BK712 := n8_
          have BK728 := n9_
          have BK737 := n10_
          have BK761 := n11_
          have BK774 := n12_
          have BK775 := n13_
          have HB := n14_
          clear n0_ n1_ n2_ n3_ n4_ n5_ n6_ n7_ n8_ n9_ n10_ n11_ n12_ n13_ n14_
          have n0_ := zA (Kd.R_drew HO_3.out)
          have n1_ := zA (Kd.R_drew HO_5.out)
          have n2_ := zA (Kd.R_drew HO_713003.out)
          have n3_ := zA (Kd.R_drew HO_729003.out)
          have n4_ := zA (Kd.R_drew HO_738003.out)
          have n5_ := zA (Kd.R_drew HO758.out)
          have n6_ := zA (Kd.V_drew HO767.out)
          have n7_ := zA (Kd.V_drew HO773.out)
          have n8_ := zA (blk_drew BK712.out)
          have n9_ := zA (blk_drew BK728.out)
          have n10_ := zA (blk_drew BK737.out)
          have n11_ := zA (blk_drew BK761.out)
          have n12_ := zA (blk_drew BK774.out)
          have n13_ := zA (blk_drew BK775.out)
          have n14_ := zA (below_drew1 HB.out)
          clear HO_3
          clear HO_5
          clear HO_713003
          clear HO_729003
          clear HO_738003
          clear HO758
          clear HO767
          clear HO773
          clear BK712
          clear BK728
          clear BK737
          clear BK761
          clear BK774
          clear BK775
          clear HB
          have HO_3 := n0_
          have HO_5 := n1_
          have HO_713003 := n2_
          have HO_729003 := n3_
          have HO_738003 := n4_
          have HO758 := n5_
          have HO767 := n6_
          have HO773 := n7_
          have BK712 := n8_
          have BK728 := n9_
          have BK737 := n10_
          have BK761 := n11_
          have BK774 := n12_
          have BK775 := n13_
          have HB := n14_
          clear n0_ n1_ n2_ n3_ n4_ n5_ n6_ n7_ n8_ n9_ n10_ n11_ n12_ n13_ n14_
          refine start_ (n := 26) (S := fun w' => w'.cell? ⟨gb761, 0, none⟩ = some (.int .i64 t753) ∧ w'.cell? ⟨gb761, 1, none⟩ = some (.int .i64 t754) ∧ w'.cell? ⟨gb761, 2, none⟩ = some (.string t755) ∧ w'.cell? ⟨gb761, 3, none⟩ = some (.slice Ao83 t756.length co83) ∧ w'.cell? ⟨gb712, 0, none⟩ = some (.int .i64 t706) ∧ w'.cell? ⟨gb712, 1, none⟩ = some (.int .i64 t707) ∧ w'.cell? ⟨gb712, 2, none⟩ = some (.string t708) ∧ w'.cell? ⟨gb712, 3, none⟩ = some (.slice Ao13 t709.length co13) ∧ w'.cell? ⟨gb774, 0, none⟩ = some (.int .i64 t762) ∧ w'.cell? ⟨gb774, 1, none⟩ = some (.int .i64 t763) ∧ w'.cell? ⟨gb774, 2, none⟩ = some (.string t764) ∧ w'.cell? ⟨gb774, 3, none⟩ = some (.slice Ao95 t765.length co95) ∧ w'.cell? ⟨gb775, 0, none⟩ = some (.int .i64 t768) ∧ w'.cell? ⟨gb775, 1, none⟩ = some (.int .i64 t769) ∧ w'.cell? ⟨gb775, 2, none⟩ = some (.string t770) ∧ w'.cell? ⟨gb775, 3, none⟩ = some (.slice Ao101 t771.length co101)) (ds := []) #[false, false, false, false, false, false, false, false, false, false, false, false, false, false, false, false, false, false, false, false, false, false, false, false, false, false] (by kernel_rfl) rfl rfl ⟨(blk_cell BK761.out 0).trans rfl, (blk_cell BK761.out 1).trans rfl, (blk_cell BK761.out 2).trans rfl, (blk_cell BK761.out 3).trans rfl, (blk_cell BK712.out 0).trans rfl, (blk_cell BK712.out 1).trans rfl, (blk_cell BK712.out 2).trans rfl, (blk_cell BK712.out 3).trans rfl, (blk_cell BK774.out 0).trans rfl, (blk_cell BK774.out 1).trans rfl, (blk_cell BK774.out 2).trans rfl, (blk_cell BK774.out 3).trans rfl, (blk_cell BK775.out 0).trans rfl, (blk_cell BK775.out 1).trans rfl, (blk_cell BK775.out 2).trans rfl, (blk_cell BK775.out 3).trans rfl⟩ (fun hHeld => ?_); refine with_tabW laws_FnVals.tab14 laws_FnVals.bits14 (fun HT_ HW_ => ?_)
          generalize w110.drew = w111 at HO_3 HO_5 HO_713003 HO_729003 HO_738003 HO758 HO767 HO773 BK712 BK728 BK737 BK761 BK774 BK775 HB hHeld ⊢
          refine pure_ (i := 0) (N := some 94) (v := ?_) (a' := ?_) #[true, false, false, false, false, false, false, false, false, false, false, false, false, false, false, false, false, false, false, false, false, false, false, false, false, false] rfl rfl (any_of HT_.out (by kernel_rfl)) (fun _ _ _ h => h) (Or.inl ⟨zq84, ?_⟩) ?_ ?_
          rotate_left
          ·intro w'
           go_simp
           with_reducible rfl
          rotate_left
          ·simp only [Act.put, List.setIfInBounds_toArray, List.set_cons_zero, List.set_cons_succ, i64_w, i32_w]
           rfl
          refine pure_ (i := 1) (N := some 95) (v := ?_) (a' := ?_) #[true, true, false, false, false, false, false, false, false, false, false, false, false, false, false, false, false, false, false, false, false, false, false, false, false, false] rfl rfl (any_of HT_.out (by kernel_rfl)) (fun _ _ _ h => h) (Or.inl ⟨zq84, ?_⟩) ?_ ?_
          rotate_left
          ·intro w'
           go_simp
           with_reducible rfl
          rotate_left
          ·simp only [Act.put, List.setIfInBounds_toArray, List.set_cons_zero, List.set_cons_succ, i64_w, i32_w]
           rfl
          refine take_ (i := 2) (N := some 96) (v := ?_) (a' := ?_) #[true, true, true, false, false, false, false, false, false, false, false, false, false, false, false, false, false, false, false, false, false, false, false, false, false, false] rfl rfl (take_ofW HT_.out HW_.out (by kernel_rfl)) (fun _ _ _ h => h) (Or.inl ⟨zq84, ?_⟩) hHeld ?_ ?_
          rotate_left
          ·rintro w' ⟨s0, s1, s2, s3, s4, s5, s6, s7, s8, s9, s10, s11, s12, s13, s14, s15⟩
           go_simp
           with_reducible rfl
          rotate_left
          ·simp only [Act.put, List.setIfInBounds_toArray, List.set_cons_zero, List.set_cons_succ, i64_w, i32_w]
           rfl
          refine take_ (i := 3) (N := some 97) (v := ?_) (a' := ?_) #[true, true, true, true, false, false, false, false, false, false, false, false, false, false, false, false, false, false, false, false, false, false, false, false, false, false] rfl rfl (take_ofW HT_.out HW_.out (by kernel_rfl)) (fun _ _ _ h => h) (Or.inl ⟨zq84, ?_⟩) hHeld ?_ ?_
          rotate_left
          ·rintro w' ⟨s0, s1, s2, s3, s4, s5, s6, s7, s8, s9, s10, s11, s12, s13, s14, s15⟩
           go_simp
           with_reducible rfl
          rotate_left
          ·simp only [Act.put, List.setIfInBounds_toArray, List.set_cons_zero, List.set_cons_succ, i64_w, i32_w]
           rfl
          refine one_ (i := 4) (N := some 98) #[true, true, true, true, true, false, false, false, false, false, false, false, false, false, false, false, false, false, false, false, false, false, false, false, false, false] rfl rfl (one_of HT_.out (by kernel_rfl)) zq39 (fun K hK => ?_)
          refine goes_ Try.func93 (by kernel_rfl) rfl #[.agg #[.int .i64 t753, .int .i64 t754, .string t755, .slice Ao83 t756.length co83], .agg #[.int .i64 t706, .int .i64 t707, .string t708, .slice Ao13 t709.length co13]] zq84 rfl rfl zq1 ?_
          with_reducible refine (impl_SameVal.calls kj37 t753 t754 t755 _ _ t756 t706 t707 t708 _ _ t709 true _ ?side1 ?side2 ?side3 ?side4 A103.out).mono ?_
          (case side1 => repeat (first | exact (Kd.R_reads' HO758.out).2.2 | (with_reducible refine Kd.C_alloc ?_ _) | (with_reducible refine Kd.C_drewN ?_ _) | (with_reducible refine Kd.C_drew ?_)))
          (case side2 => exact (Kd.R_reads' HO758.out).2.1)
          (case side3 => repeat (first | exact (Kd.R_reads' HO_713003.out).2.2 | (with_reducible refine Kd.C_alloc ?_ _) | (with_reducible refine Kd.C_drewN ?_ _) | (with_reducible refine Kd.C_drew ?_)))
          (case side4 => exact (Kd.R_reads' HO_713003.out).2.1)
          rintro e w112 ⟨rfl, hb⟩
          refine ⟨_, rfl, ?_⟩
          have n0_ := zA (Kd.R_below zq14 hb)
          have n1_ := zA (Kd.R_below zq51 hb)
          have n2_ := zA (Kd.R_below zq60 hb)
          have n3_ := zA (Kd.R_below zq61 hb)
          have n4_ := zA (Kd.R_below zq62 hb)
          have n5_ := zA (Kd.R_below zq119 hb)
          have n6_ := zA (Kd.V_below zq128 hb)
          have n7_ := zA (Kd.V_below zq129 hb)
          have n8_ := zA (blk_below (g := gb712) (o := .cells #[.int .i64 t706, .int .i64 t707, .string t708, .slice Ao13 t709.length co13] 76 (0, 0)) zq16 hb)
          have n9_ := zA (blk_below (g := gb728) (o := .cells #[.int .i64 t720, .int .i64 t721, .string t722, .slice Ao29 t723.length co29] 76 (0, 0)) zq20 hb)
          have n10_ := zA (blk_below (g := gb737) (o := .cells #[.int .i64 t729, .int .i64 t730, .string t731, .slice Ao37 t732.length co37] 76 (0, 0)) zq26 hb)
          have n11_ := zA (blk_below (g := gb761) (o := .cells #[.int .i64 t753, .int .i64 t754, .string t755, .slice Ao83 t756.length co83] 76 (0, 0)) zq71 hb)
          have n12_ := zA (blk_below (g := gb774) (o := .cells #[.int .i64 t762, .int .i64 t763, .string t764, .slice Ao95 t765.length co95] 76 (0, 0)) zq112 hb)
          have n13_ := zA (blk_below (g := gb775) (o := .cells #[.int .i64 t768, .int .i64 t769, .string t770, .slice Ao101 t771.length co101] 76 (0, 0)) zq151 hb)
          have n14_ := zA (below_step zq57 hb)
          clear HO_3
          clear HO_5
          clear HO_713003
          clear HO_729003
          clear HO_738003
          clear HO758
          clear HO767
          clear HO773
          clear BK712
          clear BK728
          clear BK737
          clear BK761
          clear BK774
          clear BK775
          clear HB
          have HO_3 := n0_
          have HO_5 := n1_
          have HO_713003 := n2_
          have HO_729003 := n3_
          have HO_738003 := n4_
          have HO758 := n5_
          have HO767 := n6_
          have HO773 := n7_
          have BK712 := n8_
          have BK728 := n9_
          have BK737 := n10_
          have BK761 := n11_
          have BK774 := n12_
          have BK775 := n13_
          have HB := n14_
          clear n0_ n1_ n2_ n3_ n4_ n5_ n6_ n7_ n8_ n9_ n10_ n11_ n12_ n13_ n14_
          (try clear hb)
          (try clear hb2)
          (try clear hk)
          (try clear hi)
          refine hK.out _ _ ⟨(blk_cell BK761.out 0).trans rfl, (blk_cell BK761.out 1).trans rfl, (blk_cell BK761.out 2).trans rfl, (blk_cell BK761.out 3).trans rfl, (blk_cell BK712.out 0).trans rfl, (blk_cell BK712.out 1).trans rfl, (blk_cell BK712.out 2).trans rfl, (blk_cell BK712.out 3).trans rfl, (blk_cell BK774.out 0).trans rfl, (blk_cell BK774.out 1).trans rfl, (blk_cell BK774.out 2).trans rfl, (blk_cell BK774.out 3).trans rfl, (blk_cell BK775.out 0).trans rfl, (blk_cell BK775.out 1).trans rfl, (blk_cell BK775.out 2).trans rfl, (blk_cell BK775.out 3).trans rfl⟩ (fun hHeld => ?_)
          clear hK K
          refine norm_ (a' := ?_) ?_ ?_
          rotate_left
          ·show Act.put _ (some 98) _ = _
           simp only [Act.put, List.setIfInBounds_toArray, List.set_cons_zero, List.set_cons_succ, i64_w, i32_w]
           rfl
          refine pure_ (i := 5) (N := some 99) (v := ?_) (a' := ?_) #[true, true, true, true, true, true, false, false, false, false, false, false, false, false, false, false, false, false, false, false, false, false, false, false, false, false] rfl rfl (any_of HT_.out (by kernel_rfl)) (fun _ _ _ h => h) (Or.inl ⟨zq84, ?_⟩) ?_ ?_
          rotate_left
          ·intro w'
           go_simp
           with_reducible rfl
          rotate_left
          ·simp only [Act.put, List.setIfInBounds_toArray, List.set_cons_zero, List.set_cons_succ, i64_w, i32_w]
           rfl
          refine pure_ (i := 6) (N := some 100) (v := ?_) (a' := ?_) #[true, true, true, true, true, true, true, false, false, false, false, false, false, false, false, false, false, false, false, false, false, false, false, false, false, false] rfl rfl (any_of HT_.out (by kernel_rfl)) (fun _ _ _ h => h) (Or.inl ⟨zq84, ?_⟩) ?_ ?_
          rotate_left
          ·intro w'
           go_simp
           with_reducible rfl
          rotate_left
          ·simp only [Act.put, List.setIfInBounds_toArray, List.set_cons_zero, List.set_cons_succ, i64_w, i32_w]
           rfl
          refine pure_ (i := 7) (N := some 101) (v := ?_) (a' := ?_) #[true, true, true, true, true, true, true, true, false, false, false, false, false, false, false, false, false, false, false, false, false, false, false, false, false, false] rfl rfl (any_of HT_.out (by kernel_rfl)) (fun _ _ _ h => h) (Or.inl ⟨zq84, ?_⟩) ?_ ?_
          rotate_left
          ·intro w'
           go_simp
           with_reducible rfl
          rotate_left
          ·simp only [Act.put, List.setIfInBounds_toArray, List.set_cons_zero, List.set_cons_succ, i64_w, i32_w]
           rfl
          refine pure_ (i := 8) (N := some 102) (v := ?_) (a' := ?_) #[true, true, true, true, true, true, true, true, true, false, false, false, false, false, false, false, false, false, false, false, false, false, false, false, false, false] rfl rfl (any_of HT_.out (by kernel_rfl)) (fun _ _ _ h => h) (Or.inl ⟨zq84, ?_⟩) ?_ ?_
          rotate_left
          ·intro w'
           go_simp
           with_reducible rfl
          rotate_left
          ·simp only [Act.put, List.setIfInBounds_toArray, List.set_cons_zero, List.set_cons_succ, i64_w, i32_w]
           rfl
          refine pure_ (i := 9) (N := some 103) (v := ?_) (a' := ?_) #[true, true, true, true, true, true, true, true, true, true, false, false, false, false, false, false, false, false, false, false, false, false, false, false, false, false] rfl rfl (any_of HT_.out (by kernel_rfl)) (fun _ _ _ h => h) (Or.inl ⟨zq84, ?_⟩) ?_ ?_
          rotate_left
          ·intro w'
           go_simp
           with_reducible rfl
          rotate_left
          ·simp only [Act.put, List.setIfInBounds_toArray, List.set_cons_zero, List.set_cons_succ, i64_w, i32_w]
           rfl
          refine pure_ (i := 10) (N := some 104) (v := ?_) (a' := ?_) #[true, true, true, true, true, true, true, true, true, true, true, false, false, false, false, false, false, false, false, false, false, false, false, false, false, false] rfl rfl (any_of HT_.out (by kernel_rfl)) (fun _ _ _ h => h) (Or.inl ⟨zq84, ?_⟩) ?_ ?_
          rotate_left
          ·intro w'
           go_simp
           with_reducible rfl
          rotate_left
          ·simp only [Act.put, List.setIfInBounds_toArray, List.set_cons_zero, List.set_cons_succ, i64_w, i32_w]
           rfl
          refine pure_ (i := 11) (N := some 105) (v := ?_) (a' := ?_) #[true, true, true, true, true, true, true, true, true, true, true, true, false, false, false, false, false, false, false, false, false, false, false, false, false, false] rfl rfl (any_of HT_.out (by kernel_rfl)) (fun _ _ _ h => h) (Or.inl ⟨zq84, ?_⟩) ?_ ?_
          rotate_left
          ·intro w'
           go_simp
           with_reducible rfl
          rotate_left
          ·simp only [Act.put, List.setIfInBounds_toArray, List.set_cons_zero, List.set_cons_succ, i64_w, i32_w]
           rfl
          refine pure_ (i := 12) (N := some 106) (v := ?_) (a' := ?_) #[true, true, true, true, true, true, true, true, true, true, true, true, true, false, false, false, false, false, false, false, false, false, false, false, false, false] rfl rfl (any_of HT_.out (by kernel_rfl)) (fun _ _ _ h => h) (Or.inl ⟨zq84, ?_⟩) ?_ ?_
          rotate_left
          ·intro w'
           go_simp
           with_reducible rfl
          rotate_left
          ·simp only [Act.put, List.setIfInBounds_toArray, List.set_cons_zero, List.set_cons_succ, i64_w, i32_w]
           rfl
          refine take_ (i := 13) (N := some 107) (v := ?_) (a' := ?_) #[true, true, true, true, true, true, true, true, true, true, true, true, true, true, false, false, false, false, false, false, false, false, false, false, false, false] rfl rfl (take_ofW HT_.out HW_.out (by kernel_rfl)) (fun _ _ _ h => h) (Or.inl ⟨zq84, ?_⟩) hHeld ?_ ?_
          rotate_left
          ·rintro w' ⟨s0, s1, s2, s3, s4, s5, s6, s7, s8, s9, s10, s11, s12, s13, s14, s15⟩
           go_simp
           with_reducible rfl
          rotate_left
          ·simp only [Act.put, List.setIfInBounds_toArray, List.set_cons_zero, List.set_cons_succ, i64_w, i32_w]
           rfl
          refine one_ (i := 14) (N := some 108) #[true, true, true, true, true, true, true, true, true, true, true, true, true, true, true, false, false, false, false, false, false, false, false, false, false, false] rfl rfl (one_of HT_.out (by kernel_rfl)) zq39 (fun K hK => ?_)
          refine goes_ Try.func90 (by kernel_rfl) rfl #[.agg #[.int .i64 t706, .int .i64 t707, .string t708, .slice Ao13 t709.length co13]] zq84 rfl rfl zq1 ?_
          with_reducible refine (impl_ValOk.calls kj37 t706 t707 t708 _ _ t709 true _ ?side1 ?side2 A106.out).mono ?_
          (case side1 => repeat (first | exact (Kd.R_reads' HO_713003.out).2.2 | (with_reducible refine Kd.C_alloc ?_ _) | (with_reducible refine Kd.C_drewN ?_ _) | (with_reducible refine Kd.C_drew ?_)))
          (case side2 => exact (Kd.R_reads' HO_713003.out).2.1)
          rintro e w113 ⟨rfl, hb⟩
          refine ⟨_, rfl, ?_⟩
          have n0_ := zA (Kd.R_below zq14 hb)
          have n1_ := zA (Kd.R_below zq51 hb)
          have n2_ := zA (Kd.R_below zq60 hb)
          have n3_ := zA (Kd.R_below zq61 hb)
          have n4_ := zA (Kd.R_below zq62 hb)
          have n5_ := zA (Kd.R_below zq119 hb)
          have n6_ := zA (Kd.V_below zq128 hb)
          have n7_ := zA (Kd.V_below zq129 hb)
          have n8_ := zA (blk_below (g := gb712) (o := .cells #[.int .i64 t706, .int .i64 t707, .string t708, .slice Ao13 t709.length co13] 76 (0, 0)) zq16 hb)
          have n9_ := zA (blk_below (g := gb728) (o := .cells #[.int .i64 t720, .int .i64 t721, .string t722, .slice Ao29 t723.length co29] 76 (0, 0)) zq20 hb)
          have n10_ := zA (blk_below (g := gb737) (o := .cells #[.int .i64 t729, .int .i64 t730, .string t731, .slice Ao37 t732.length co37] 76 (0, 0)) zq26 hb)
          have n11_ := zA (blk_below (g := gb761) (o := .cells #[.int .i64 t753, .int .i64 t754, .string t755, .slice Ao83 t756.length co83] 76 (0, 0)) zq71 hb)
          have n12_ := zA (blk_below (g := gb774) (o := .cells #[.int .i64 t762, .int .i64 t763, .string t764, .slice Ao95 t765.length co95] 76 (0, 0)) zq112 hb)
          have n13_ := zA (blk_below (g := gb775) (o := .cells #[.int .i64 t768, .int .i64 t769, .string t770, .slice Ao101 t771.length co101] 76 (0, 0)) zq151 hb)
          have n14_ := zA (below_step zq57 hb)
          clear HO_3
          clear HO_5
          clear HO_713003
          clear HO_729003
          clear HO_738003
          clear HO758
          clear HO767
          clear HO773
          clear BK712
          clear BK728
          clear BK737
          clear BK761
          clear BK774
          clear BK775
          clear HB
          have HO_3 := n0_
          have HO_5 := n1_
          have HO_713003 := n2_
          have HO_729003 := n3_
          have HO_738003 := n4_
          have HO758 := n5_
          have HO767 := n6_
          have HO773 := n7_
          have BK712 := n8_
          have BK728 := n9_
          have BK737 := n10_
          have BK761 := n11_
          have BK774 := n12_
          have BK775 := n13_
          have HB := n14_
          clear n0_ n1_ n2_ n3_ n4_ n5_ n6_ n7_ n8_ n9_ n10_ n11_ n12_ n13_ n14_
          (try clear hb)
          (try clear hb2)
          (try clear hk)
          (try clear hi)
          refine hK.out _ _ ⟨(blk_cell BK761.out 0).trans rfl, (blk_cell BK761.out 1).trans rfl, (blk_cell BK761.out 2).trans rfl, (blk_cell BK761.out 3).trans rfl, (blk_cell BK712.out 0).trans rfl, (blk_cell BK712.out 1).trans rfl, (blk_cell BK712.out 2).trans rfl, (blk_cell BK712.out 3).trans rfl, (blk_cell BK774.out 0).trans rfl, (blk_cell BK774.out 1).trans rfl, (blk_cell BK774.out 2).trans rfl, (blk_cell BK774.out 3).trans rfl, (blk_cell BK775.out 0).trans rfl, (blk_cell BK775.out 1).trans rfl, (blk_cell BK775.out 2).trans rfl, (blk_cell BK775.out 3).trans rfl⟩ (fun hHeld => ?_)
          clear hK K
          refine norm_ (a' := ?_) ?_ ?_
          rotate_left
          ·show Act.put _ (some 108) _ = _
           simp only [Act.put, List.setIfInBounds_toArray, List.set_cons_zero, List.set_cons_succ, i64_w, i32_w]
           rfl
          refine pure_ (i := 15) (N := some 109) (v := ?_) (a' := ?_) #[true, true, true, true, true, true, true, true, true, true, true, true, true, true, true, true, false, false, false, false, false, false, false, false, false, false] rfl rfl (any_of HT_.out (by kernel_rfl)) (fun _ _ _ h => h) (Or.inl ⟨zq84, ?_⟩) ?_ ?_
          rotate_left
          ·intro w'
           go_simp
           with_reducible rfl
          rotate_left
          ·simp only [Act.put, List.setIfInBounds_toArray, List.set_cons_zero, List.set_cons_succ, i64_w, i32_w]
           rfl
          refine pure_ (i := 16) (N := some 110) (v := ?_) (a' := ?_) #[true, true, true, true, true, true, true, true, true, true, true, true, true, true, true, true, true, false, false, false, false, false, false, false, false, false] rfl rfl (any_of HT_.out (by kernel_rfl)) (fun _ _ _ h => h) (Or.inl ⟨zq84, ?_⟩) ?_ ?_
          rotate_left
          ·intro w'
           go_simp
           with_reducible rfl
          rotate_left
          ·simp only [Act.put, List.setIfInBounds_toArray, List.set_cons_zero, List.set_cons_succ, i64_w, i32_w]
           rfl
          refine take_ (i := 17) (N := some 111) (v := ?_) (a' := ?_) #[true, true, true, true, true, true, true, true, true, true, true, true, true, true, true, true, true, true, false, false, false, false, false, false, false, false] rfl rfl (take_ofW HT_.out HW_.out (by kernel_rfl)) (fun _ _ _ h => h) (Or.inl ⟨zq84, ?_⟩) hHeld ?_ ?_
          rotate_left
          ·rintro w' ⟨s0, s1, s2, s3, s4, s5, s6, s7, s8, s9, s10, s11, s12, s13, s14, s15⟩
           go_simp
           with_reducible rfl
          rotate_left
          ·simp only [Act.put, List.setIfInBounds_toArray, List.set_cons_zero, List.set_cons_succ, i64_w, i32_w]
           rfl
          refine take_ (i := 18) (N := some 112) (v := ?_) (a' := ?_) #[true, true, true, true, true, true, true, true, true, true, true, true, true, true, true, true, true, true, true, false, false, false, false, false, false, false] rfl rfl (take_ofW HT_.out HW_.out (by kernel_rfl)) (fun _ _ _ h => h) (Or.inl ⟨zq84, ?_⟩) hHeld ?_ ?_
          rotate_left
          ·rintro w' ⟨s0, s1, s2, s3, s4, s5, s6, s7, s8, s9, s10, s11, s12, s13, s14, s15⟩
           go_simp
           with_reducible rfl
          rotate_left
          ·simp only [Act.put, List.setIfInBounds_toArray, List.set_cons_zero, List.set_cons_succ, i64_w, i32_w]
           rfl
          refine take_ (i := 20) (N := some 114) (v := ?_) (a' := ?_) #[true, true, true, true, true, true, true, true, true, true, true, true, true, true, true, true, true, true, true, false, true, false, false, false, false, false] rfl rfl (take_ofW HT_.out HW_.out (by kernel_rfl)) (fun _ _ _ h => h) (Or.inl ⟨zq84, ?_⟩) hHeld ?_ ?_
          rotate_left
          ·rintro w' ⟨s0, s1, s2, s3, s4, s5, s6, s7, s8, s9, s10, s11, s12, s13, s14, s15⟩
           go_simp
           with_reducible rfl
          rotate_left
          ·simp only [Act.put, List.setIfInBounds_toArray, List.set_cons_zero, List.set_cons_succ, i64_w, i32_w]
           rfl
          refine take_ (i := 21) (N := some 115) (v := ?_) (a' := ?_) #[true, true, true, true, true, true, true, true, true, true, true, true, true, true, true, true, true, true, true, false, true, true, false, false, false, false] rfl rfl (take_ofW HT_.out HW_.out (by kernel_rfl)) (fun _ _ _ h => h) (Or.inl ⟨zq84, ?_⟩) hHeld ?_ ?_
          rotate_left
          ·rintro w' ⟨s0, s1, s2, s3, s4, s5, s6, s7, s8, s9, s10, s11, s12, s13, s14, s15⟩
           go_simp
           with_reducible rfl
          rotate_left
          ·simp only [Act.put, List.setIfInBounds_toArray, List.set_cons_zero, List.set_cons_succ, i64_w, i32_w]
           rfl
          refine one_ (i := 19) (N := some 113) #[true, true, true, true, true, true, true, true, true, true, true, true, true, true, true, true, true, true, true, true, true, true, false, false, false, false] rfl rfl (one_of HT_.out (by kernel_rfl)) zq39 (fun K hK => ?_)
          refine goes_ Try.func93 (by kernel_rfl) rfl #[.agg #[.int .i64 t762, .int .i64 t763, .string t764, .slice Ao95 t765.length co95], .agg #[.int .i64 t768, .int .i64 t769, .string t770, .slice Ao101 t771.length co101]] zq84 rfl rfl zq1 ?_
          with_reducible refine (impl_SameVal.calls kj37 t762 t763 t764 _ _ t765 t768 t769 t770 _ _ t771 t778 _ ?side1 ?side2 ?side3 ?side4 A108.out).mono ?_
          (case side1 => repeat (first | exact (Kd.V_reads' HO767.out).2.2 | (with_reducible refine Kd.C_alloc ?_ _) | (with_reducible refine Kd.C_drewN ?_ _) | (with_reducible refine Kd.C_drew ?_)))
          (case side2 => exact (Kd.V_reads' HO767.out).2.1)
          (case side3 => repeat (first | exact (Kd.V_reads' HO773.out).2.2 | (with_reducible refine Kd.C_alloc ?_ _) | (with_reducible refine Kd.C_drewN ?_ _) | (with_reducible refine Kd.C_drew ?_)))
          (case side4 => exact (Kd.V_reads' HO773.out).2.1)
          rintro e w114 ⟨rfl, hb⟩
          refine ⟨_, rfl, ?_⟩
          have n0_ := zA (Kd.R_below zq14 hb)
          have n1_ := zA (Kd.R_below zq51 hb)
          have n2_ := zA (Kd.R_below zq60 hb)
          have n3_ := zA (Kd.R_below zq61 hb)
          have n4_ := zA (Kd.R_below zq62 hb)
          have n5_ := zA (Kd.R_below zq119 hb)
          have n6_ := zA (Kd.V_below zq128 hb)
          have n7_ := zA (Kd.V_below zq129 hb)
          have n8_ := zA (blk_below (g := gb712) (o := .cells #[.int .i64 t706, .int .i64 t707, .string t708, .slice Ao13 t709.length co13] 76 (0, 0)) zq16 hb)
          have n9_ := zA (blk_below (g := gb728) (o := .cells #[.int .i64 t720, .int .i64 t721, .string t722, .slice Ao29 t723.length co29] 76 (0, 0)) zq20 hb)
          have n10_ := zA (blk_below (g := gb737) (o := .cells #[.int .i64 t729, .int .i64 t730, .string t731, .slice Ao37 t732.length co37] 76 (0, 0)) zq26 hb)
          have n11_ := zA (blk_below (g := gb761) (o := .cells #[.int .i64 t753, .int .i64 t754, .string t755, .slice Ao83 t756.length co83] 76 (0, 0)) zq71 hb)
          have n12_ := zA (blk_below (g := gb774) (o := .cells #[.int .i64 t762, .int .i64 t763, .string t764, .slice Ao95 t765.length co95] 76 (0, 0)) zq112 hb)
          have n13_ := zA (blk_below (g := gb775) (o := .cells #[.int .i64 t768, .int .i64 t769, .string t770, .slice Ao101 t771.length co101] 76 (0, 0)) zq151 hb)
          have n14_ := zA (below_step zq57 hb)
          clear HO_3
          clear HO_5
          clear HO_713003
          clear HO_729003
          clear HO_738003
          clear HO758
          clear HO767
          clear HO773
          clear BK712
          clear BK728
          clear BK737
          clear BK761
          clear BK774
          clear BK775
          clear HB
          have HO_3 := n0_
          have HO_5 := n1_
          have HO_713003 := n2_
          have HO_729003 := n3_
          have HO_738003 := n4_
          have HO758 := n5_
          have HO767 := n6_
          have HO773 := n7_
          have BK712 := n8_
          have BK728 := n9_
          have BK737 := n10_
          have BK761 := n11_
          have BK774 := n12_
          have BK775 := n13_
          have HB := n14_
          clear n0_ n1_ n2_ n3_ n4_ n5_ n6_ n7_ n8_ n9_ n10_ n11_ n12_ n13_ n14_
          (try clear hb)
          (try clear hb2)
          (try clear hk)
          (try clear hi)
          refine hK.out _ _ ⟨(blk_cell BK761.out 0).trans rfl, (blk_cell BK761.out 1).trans rfl, (blk_cell BK761.out 2).trans rfl, (blk_cell BK761.out 3).trans rfl, (blk_cell BK712.out 0).trans rfl, (blk_cell BK712.out 1).trans rfl, (blk_cell BK712.out 2).trans rfl, (blk_cell BK712.out 3).trans rfl, (blk_cell BK774.out 0).trans rfl, (blk_cell BK774.out 1).trans rfl, (blk_cell BK774.out 2).trans rfl, (blk_cell BK774.out 3).trans rfl, (blk_cell BK775.out 0).trans rfl, (blk_cell BK775.out 1).trans rfl, (blk_cell BK775.out 2).trans rfl, (blk_cell BK775.out 3).trans rfl⟩ (fun hHeld => ?_)
          clear hK K
          refine norm_ (a' := ?_) ?_ ?_
          rotate_left
          ·show Act.put _ (some 113) _ = _
           simp only [Act.put, List.setIfInBounds_toArray, List.set_cons_zero, List.set_cons_succ, i64_w, i32_w]
           rfl
          refine one_ (i := 22) (N := some 116) #[true, true, true, true, true, true, true, true, true, true, true, true, true, true, true, true, true, true, true, true, true, true, true, false, false, false] rfl rfl (one_of HT_.out (by kernel_rfl)) zq39 (fun K hK => ?_)
          refine goes_ Try.func94 (by kernel_rfl) rfl #[.agg #[.int .i64 t762, .int .i64 t763, .string t764, .slice Ao95 t765.length co95], .agg #[.int .i64 t768, .int .i64 t769, .string t770, .slice Ao101 t771.length co101]] zq84 rfl rfl zq1 ?_
          with_reducible refine (spec_SameVal.calls kj37 t762 t763 t764 _ _ t765 t768 t769 t770 _ _ t771 t779 _ ?side1 ?side2 ?side3 ?side4 A109.out).mono ?_
          (case side1 => repeat (first | exact (Kd.V_reads' HO767.out).2.2 | (with_reducible refine Kd.C_alloc ?_ _) | (with_reducible refine Kd.C_drewN ?_ _) | (with_reducible refine Kd.C_drew ?_)))
          (case side2 => exact (Kd.V_reads' HO767.out).2.1)
          (case side3 => repeat (first | exact (Kd.V_reads' HO773.out).2.2 | (with_reducible refine Kd.C_alloc ?_ _) | (with_reducible refine Kd.C_drewN ?_ _) | (with_reducible refine Kd.C_drew ?_)))
          (case side4 => exact (Kd.V_reads' HO773.out).2.1)
          rintro e w115 ⟨rfl, hb⟩
          refine ⟨_, rfl, ?_⟩
          have n0_ := zA (Kd.R_below zq14 hb)
          have n1_ := zA (Kd.R_below zq51 hb)
          have n2_ := zA (Kd.R_below zq60 hb)
          have n3_ := zA (Kd.R_below zq61 hb)
          have n4_ := zA (Kd.R_below zq62 hb)
          have n5_ := zA (Kd.R_below zq119 hb)
          have n6_ := zA (Kd.V_below zq128 hb)
          have n7_ := zA (Kd.V_below zq129 hb)
          have n8_ := zA (blk_below (g := gb712) (o := .cells #[.int .i64 t706, .int .i64 t707, .string t708, .slice Ao13 t709.length co13] 76 (0, 0)) zq16 hb)
          have n9_ := zA (blk_below (g := gb728) (o := .cells #[.int .i64 t720, .int .i64 t721, .string t722, .slice Ao29 t723.length co29] 76 (0, 0)) zq20 hb)
          have n10_ := zA (blk_below (g := gb737) (o := .cells #[.int .i64 t729, .int .i64 t730, .string t731, .slice Ao37 t732.length co37] 76 (0, 0)) zq26 hb)
          have n11_ := zA (blk_below (g := gb761) (o := .cells #[.int .i64 t753, .int .i64 t754, .string t755, .slice Ao83 t756.length co83] 76 (0, 0)) zq71 hb)
          have n12_ := zA (blk_below (g := gb774) (o := .cells #[.int .i64 t762, .int .i64 t763, .string t764, .slice Ao95 t765.length co95] 76 (0, 0)) zq112 hb)
          have n13_ := zA (blk_below (g := gb775) (o := .cells #[.int .i64 t768, .int .i64 t769, .string t770, .slice Ao101 t771.length co101] 76 (0, 0)) zq151 hb)
          have n14_ := zA (below_step zq57 hb)
          clear HO_3
          clear HO_5
          clear HO_713003
          clear HO_729003
          clear HO_738003
          clear HO758
          clear HO767
          clear HO773
          clear BK712
          clear BK728
          clear BK737
          clear BK761
          clear BK774
          clear BK775
          clear HB
          have HO_3 := n0_
          have HO_5 := n1_
          have HO_713003 := n2_
          have HO_729003 := n3_
          have HO_738003 := n4_
          have HO758 := n5_
          have HO767 := n6_
          have HO773 := n7_
          have BK712 := n8_
          have BK728 := n9_
          have BK737 := n10_
          have BK761 := n11_
          have BK774 := n12_
          have BK775 := n13_
          have HB := n14_
          clear n0_ n1_ n2_ n3_ n4_ n5_ n6_ n7_ n8_ n9_ n10_ n11_ n12_ n13_ n14_
          (try clear hb)
          (try clear hb2)
          (try clear hk)
          (try clear hi)
          refine hK.out _ _ ⟨(blk_cell BK761.out 0).trans rfl, (blk_cell BK761.out 1).trans rfl, (blk_cell BK761.out 2).trans rfl, (blk_cell BK761.out 3).trans rfl, (blk_cell BK712.out 0).trans rfl, (blk_cell BK712.out 1).trans rfl, (blk_cell BK712.out 2).trans rfl, (blk_cell BK712.out 3).trans rfl, (blk_cell BK774.out 0).trans rfl, (blk_cell BK774.out 1).trans rfl, (blk_cell BK774.out 2).trans rfl, (blk_cell BK774.out 3).trans rfl, (blk_cell BK775.out 0).trans rfl, (blk_cell BK775.out 1).trans rfl, (blk_cell BK775.out 2).trans rfl, (blk_cell BK775.out 3).trans rfl⟩ (fun hHeld => ?_)
          clear hK K
          refine norm_ (a' := ?_) ?_ ?_
          rotate_left
          ·show Act.put _ (some 116) _ = _
           simp only [Act.put, List.setIfInBounds_toArray, List.set_cons_zero, List.set_cons_succ, i64_w, i32_w]
           rfl
          refine pure_ (i := 23) (N := some 117) (v := ?_) (a' := ?_) #[true, true, true, true, true, true, true, true, true, true, true, true, true, true, true, true, true, true, true, true, true, true, true, true, false, false] rfl rfl (any_of HT_.out (by kernel_rfl)) (fun _ _ _ h => h) (Or.inl ⟨zq84, ?_⟩) ?_ ?_
          rotate_left
          ·intro w'
           go_simp
           with_reducible rfl
          rotate_left
          ·simp only [Act.put, List.setIfInBounds_toArray, List.set_cons_zero, List.set_cons_succ, i64_w, i32_w]
           rfl
          refine pure_ (i := 24) (N := some 118) (v := ?_) (a' := ?_) #[true, true, true, true, true, true, true, true, true, true, true, true, true, true, true, true, true, true, true, true, true, true, true, true, true, false] rfl rfl (any_of HT_.out (by kernel_rfl)) (fun _ _ _ h => h) (Or.inl ⟨zq84, ?_⟩) ?_ ?_
          rotate_left
          ·intro w'
           go_simp
           with_reducible rfl
          rotate_left
          ·simp only [Act.put, List.setIfInBounds_toArray, List.set_cons_zero, List.set_cons_succ, i64_w, i32_w]
           rfl
          refine pure_ (i := 25) (N := some 2) (v := ?_) (a' := ?_) #[true, true, true, true, true, true, true, true, true, true, true, true, true, true, true, true, true, true, true, true, true, true, true, true, true, true] rfl rfl (any_of HT_.out (by kernel_rfl)) (fun _ _ _ h => h) (Or.inl ⟨zq84, ?_⟩) ?_ ?_
          rotate_left
          ·intro w'
           go_simp
           with_reducible rfl
          rotate_left
          ·simp only [Act.put, List.setIfInBounds_toArray, List.set_cons_zero, List.set_cons_succ, i64_w, i32_w]
           rfl
          refine done_ (done_of HT_.out (by kernel_rfl)) ?_
          try go_wp2
          go_ret
          exact ⟨zq2, zq57⟩
         ·replace c107 := Bool.eq_false_iff.mpr c107
          subst c107
          rw [if_neg zF] at H
          exact absurd H zq134
        ·rw [if_neg c105] at H
         have c105b0 : (t759 == (t713.length : Int)) = false := beq_eq_false_iff_ne.mpr c105
         have c105b1 : (t759 != (t713.length : Int)) = true := bne_iff_ne.mpr c105
         exact absurd H zq134
       ·replace c104 := Bool.eq_false_iff.mpr c104
        subst c104
        rw [if_neg zF] at H
        exact absurd H zq134
      ·replace c102 := Bool.eq_false_iff.mpr c102
       subst c102
       rw [if_neg zF] at H
       exact absurd H zq134
     ·replace c68 := Bool.eq_false_iff.mpr c68
      subst c68
      rw [if_neg zF] at H
      have HC116 := zA H
      clear H
      have hnb117 := NB712_728.out
      have hnc117 := NB728_712.out
      have hnb118 := NB712_737.out
      have hnc118 := NB737_712.out
      have hcz119_0 : wc.cell? ⟨gb712, 0, none⟩ = some (.int .i64 t706) := (blk_cell BK712.out 0).trans rfl
      have hcz119_1 : wc.cell? ⟨gb712, 1, none⟩ = some (.int .i64 t707) := (blk_cell BK712.out 1).trans rfl
      have hcz119_2 : wc.cell? ⟨gb712, 2, none⟩ = some (.string t708) := (blk_cell BK712.out 2).trans rfl
      have hcz119_3 : wc.cell? ⟨gb712, 3, none⟩ = some (.slice Ao13 t709.length co13) := (blk_cell BK712.out 3).trans rfl
      have hfz119_0 := blk_frozen BK712.out 0
      have hfz119_1 := blk_frozen BK712.out 1
      have hfz119_2 := blk_frozen BK712.out 2
      have hfz119_3 := blk_frozen BK712.out 3
      go_upto_region 11 with (first | ((with_reducible refine gate_callee (f := 91) rfl ?_); refine goesL_ (some 71) rfl rfl Try.func91 (by kernel_rfl) rfl #[.agg #[.int .i64 t706, .int .i64 t707, .string t708, .slice Ao13 t709.length co13]] rfl zq1 ?_; (with_reducible refine (spec_ValOk.calls kj37 t706 t707 t708 _ _ t709 false _ ?side1 ?side2 A67.out).mono ?_); (case side1 => repeat (first | exact (Kd.R_reads' HO_713003.out).2.2 | (with_reducible refine Kd.C_alloc ?_ _) | (with_reducible refine Kd.C_drewN ?_ _) | (with_reducible refine Kd.C_drew ?_))); (case side2 => exact (Kd.R_reads' HO_713003.out).2.1); rintro e w120 ⟨rfl, hb⟩; refine ⟨_, rfl, ?_⟩; replace HO_3 := zA (Kd.R_below zq14 hb); replace HO_5 := zA (Kd.R_below zq51 hb); replace HO_713003 := zA (Kd.R_below zq60 hb); replace HO_729003 := zA (Kd.R_below zq61 hb); replace HO_738003 := zA (Kd.R_below zq62 hb); replace BK712 := zA (blk_below (g := gb712) (o := .cells #[.int .i64 t706, .int .i64 t707, .string t708, .slice Ao13 t709.length co13] 76 (0, 0)) zq16 hb); replace BK728 := zA (blk_below (g := gb728) (o := .cells #[.int .i64 t720, .int .i64 t721, .string t722, .slice Ao29 t723.length co29] 76 (0, 0)) zq20 hb); replace BK737 := zA (blk_below (g := gb737) (o := .cells #[.int .i64 t729, .int .i64 t730, .string t731, .slice Ao37 t732.length co37] 76 (0, 0)) zq26 hb); replace HB := zA (below_step zq15 hb); clear hb))
      (try simp only [Act.put, List.setIfInBounds_toArray, List.set_cons_zero, List.set_cons_succ])
      have H := HC116.out
      clear HC116
      obtain ⟨t751, A121, H⟩ := zB H
      try dsimp only at H
      by_cases c122 : t751 = true
      ·subst c122
       rw [if_pos rfl] at H
       obtain ⟨t752, A123, H⟩ := zB H
       try dsimp only at H
       obtain rfl := Option.some.inj H
       obtain ⟨Ao124, co124, eo124⟩ := Kd.R_slice HO_5.out
       subst eo124
       go_wp2_with (first | ((with_reducible refine gate_callee (f := 25) rfl ?_); refine goesL_ (some 75) rfl rfl Try.func25 (by kernel_rfl) rfl #[.slice Ao124 t713.length co124, .slice Ao17 t703.length co17] rfl zq1 ?_; (with_reducible refine (laws_sameBytes.calls kj37 _ _ t713 _ _ t703 true _ ?side1 ?side2 ?side3 ?side4 A121.out).mono ?_); (case side1 => repeat (first | exact (Kd.R_reads' HO_5.out).2.2 | (with_reducible refine Kd.C_alloc ?_ _) | (with_reducible refine Kd.C_drewN ?_ _) | (with_reducible refine Kd.C_drew ?_))); (case side2 => exact (Kd.R_reads' HO_5.out).2.1); (case side3 => repeat (first | exact (Kd.R_reads' HO_3.out).2.2 | (with_reducible refine Kd.C_alloc ?_ _) | (with_reducible refine Kd.C_drewN ?_ _) | (with_reducible refine Kd.C_drew ?_))); (case side4 => exact (Kd.R_reads' HO_3.out).2.1); rintro e w' ⟨rfl, ⟨nd, rfl⟩⟩; refine ⟨_, rfl, ?_⟩; have hnb125 := NB712_728.out; have hnc125 := NB728_712.out; have hnb126 := NB712_737.out; have hnc126 := NB737_712.out; have hcz127_0 : w120.cell? ⟨gb712, 0, none⟩ = some (.int .i64 t706) := (blk_cell BK712.out 0).trans rfl; have hcz127_1 : w120.cell? ⟨gb712, 1, none⟩ = some (.int .i64 t707) := (blk_cell BK712.out 1).trans rfl; have hcz127_2 : w120.cell? ⟨gb712, 2, none⟩ = some (.string t708) := (blk_cell BK712.out 2).trans rfl; have hcz127_3 : w120.cell? ⟨gb712, 3, none⟩ = some (.slice Ao13 t709.length co13) := (blk_cell BK712.out 3).trans rfl; have hfz127_0 := blk_frozen BK712.out 0; have hfz127_1 := blk_frozen BK712.out 1; have hfz127_2 := blk_frozen BK712.out 2; have hfz127_3 := blk_frozen BK712.out 3) | (go_at_call 90; (with_reducible refine (impl_ValOk.calls kj37 t706 t707 t708 _ _ t709 t752 _ ?side1 ?side2 A123.out).mono ?_); (case side1 => repeat (first | exact (Kd.R_reads' HO_713003.out).2.2 | (with_reducible refine Kd.C_alloc ?_ _) | (with_reducible refine Kd.C_drewN ?_ _) | (with_reducible refine Kd.C_drew ?_))); (case side2 => exact (Kd.R_reads' HO_713003.out).2.1); rintro e w128 ⟨rfl, hb⟩; replace HO_3 := zA (Kd.R_below zq14 hb); replace HO_5 := zA (Kd.R_below zq51 hb); replace HO_713003 := zA (Kd.R_below zq60 hb); replace HO_729003 := zA (Kd.R_below zq61 hb); replace HO_738003 := zA (Kd.R_below zq62 hb); replace BK712 := zA (blk_below (g := gb712) (o := .cells #[.int .i64 t706, .int .i64 t707, .string t708, .slice Ao13 t709.length co13] 76 (0, 0)) zq16 hb); replace BK728 := zA (blk_below (g := gb728) (o := .cells #[.int .i64 t720, .int .i64 t721, .string t722, .slice Ao29 t723.length co29] 76 (0, 0)) zq20 hb); replace BK737 := zA (blk_below (g := gb737) (o := .cells #[.int .i64 t729, .int .i64 t730, .string t731, .slice Ao37 t732.length co37] 76 (0, 0)) zq26 hb); replace HB := zA (below_step zq15 hb); clear hb))
       go_ret
       exact ⟨zq2, zq15⟩
      ·replace c122 := Bool.eq_false_iff.mpr c122
       subst c122
       rw [if_neg zF] at H
       exact absurd H zq134

/-- THE ONE PURE STATEMENT of laws_FnVals: yours. -/
def laws_FnVals.Pure : Prop := ∀ (l0 : List Int), l0.length ≤ maxLen → l0.length * 1 ≤ 140737488351232 → (∀ x ∈ l0, (Lit.int .u8 x).wf = true) → ∃ k, laws_FnVals.f k l0 = some true
theorem laws_FnVals.walk (P : laws_FnVals.Pure) (a0 : Option Addr) (len0 cap0 : Nat) (z0 : List Int) (w : World) (w0 : (a0 = none ∧ len0 = 0 ∧ cap0 = 0 ∧ z0 = []) ∨ ∃ x, a0 = some x ∧ len0 ≤ cap0 ∧ cap0 ≤ maxLen ∧ z0.length = cap0 ∧ (∀ i, i < z0.length → w.cell? (x.add i) = some (.int .u8 (z0.getD i 0))) ∧ ∀ n ∈ z0, (Lit.int .u8 n).wf = true) (y0 : len0 * 1 ≤ 140737488351232) :
  Calls Try.prog 12 #[.slice a0 len0 cap0] w fun e w' => e = .returned (.bool true) ∧ Below w.heap.size w w' := by
 obtain ⟨l0, rfl, hr0, hm0, hw0, hc0⟩ := ReadsInt.ofRowC w0
 obtain ⟨k, h⟩ := P l0 hm0 y0 hw0
 refine (laws_FnVals.calls k _ _ l0 true w (Kd.C_of_reads (d := (0 : Int)) (h1 := fun _ => rfl) hr0) hc0 h).mono ?_
 rintro e w' ⟨rfl, hd⟩
 exact ⟨rfl, hd⟩

end Go.Proofs.Ytkcgghgkmgbphaa.PFnVals
