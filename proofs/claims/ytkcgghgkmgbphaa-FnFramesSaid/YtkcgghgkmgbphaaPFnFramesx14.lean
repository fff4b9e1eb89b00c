-- WRITTEN BY a turned copy of the kit's printer (wip/patch_print.py), for this claim
import Derived.Test.YtkcgghgkmgbphaaPFnFramesx0
import Derived.Test.YtkcgghgkmgbphaaPFnFramesx1
import Derived.Test.YtkcgghgkmgbphaaPFnFramesx5
import Derived.Test.YtkcgghgkmgbphaaPFnFramesx7
import Derived.Test.YtkcgghgkmgbphaaPFnFramesx10
import Derived.Test.YtkcgghgkmgbphaaPFnFramesx11
import Derived.Test.YtkcgghgkmgbphaaPFnFramesx13
namespace Go.Proofs.Ytkcgghgkmgbphaa.PFnFrames
open Go.RowKit Go.Proofs.YtkcgghgkmgbphaaW.PrintWords Go.Proofs.YtkcgghgkmgbphaaW.PrintLast Go.Proofs.YtkcgghgkmgbphaaW.PrintMore
attribute [local go_sem] max2_int min2_int max_two min_two max_three min_three max_four min_four   -- for this text's walks alone
set_option linter.unusedVariables false
set_option linter.unusedSimpArgs false

attribute [local go_sem] cell_setCell_m
/-! ### laws_FnFrames: function 10 -/
def laws_FnFrames.j0 : Nat → List Int → Bool → Int → Int → Int → List Int → Option (Bool)
 | 0, _, _, _, _, _, _ => none
 | k + 1, x4, x86, x594000, x594001, x594002, x594003 => if x86 = true then (none) else ((spec_FrameOk.f x594000 x594001 x594002 x594003).bind fun t638 => (if t638 = true then ((impl_GetFrame.f k x4).bind fun bt639 => (if bt639.2.2.2.2 = true then ((impl_SameFrame.f bt639.1 bt639.2.1 bt639.2.2.1 bt639.2.2.2.1 x594000 x594001 x594002 x594003).bind fun t647 => (if t647 = true then ((impl_FrameOk.f x594000 x594001 x594002 x594003).bind fun t648 => (if t648 = true then (some true) else (none))) else (none))) else (none))) else (if (x4.length : Int) = 0 then ((impl_FrameOk.f x594000 x594001 x594002 x594003).bind fun t649 => (some (!t649))) else (none))))
def laws_FnFrames.f (k : Nat) (l0 : List Int) : Option (Bool) := (laws_big.f l0).bind fun t586 => (if t586 = true then (some true) else ((spec_DrawPutFrame.f k l0).bind fun bt587 => ((impl_PutFrame.f k bt587.1 bt587.2.1 bt587.2.2.1 bt587.2.2.2).bind fun t594 => ((spec_DrawGetFrame.f k l0).bind fun t597 => ((impl_GetFrame.f k t597).bind fun bt600 => ((spec_GetFrame.f k t597).bind fun bt608 => ((spec_DrawTagged.f k l0).bind fun bt616 => ((impl_Tagged.f bt616.1 bt616.2.1 bt616.2.2.1 bt616.2.2.2.1 bt616.2.2.2.2).bind fun bt624 => (if (bt600.2.2.2.2 != bt608.2.2.2.2) = true then (laws_FnFrames.j0 k t594 true bt587.1 bt587.2.1 bt587.2.2.1 bt587.2.2.2) else (if bt600.2.2.2.2 = true then ((impl_FrameOk.f bt600.1 bt600.2.1 bt600.2.2.1 bt600.2.2.2.1).bind fun t631 => (if t631 = true then ((impl_PutFrame.f k bt600.1 bt600.2.1 bt600.2.2.1 bt600.2.2.2.1).bind fun t632 => ((laws_sameBytes.f k t632 t597).bind fun t635 => (if t635 = true then (if bt624.2.2.1 = bt616.2.2.2.2 then (if bt624.1 = bt616.1 then (if bt624.2.1 = bt616.2.1 then ((laws_sameBytes.f k bt624.2.2.2 bt616.2.2.2.1).bind fun t636 => (laws_FnFrames.j0 k t594 (!t636) bt587.1 bt587.2.1 bt587.2.2.1 bt587.2.2.2)) else (laws_FnFrames.j0 k t594 true bt587.1 bt587.2.1 bt587.2.2.1 bt587.2.2.2)) else (laws_FnFrames.j0 k t594 true bt587.1 bt587.2.1 bt587.2.2.1 bt587.2.2.2)) else (laws_FnFrames.j0 k t594 true bt587.1 bt587.2.1 bt587.2.2.1 bt587.2.2.2)) else (laws_FnFrames.j0 k t594 true bt587.1 bt587.2.1 bt587.2.2.1 bt587.2.2.2)))) else (laws_FnFrames.j0 k t594 true bt587.1 bt587.2.1 bt587.2.2.1 bt587.2.2.2))) else (if bt624.2.2.1 = bt616.2.2.2.2 then (if bt624.1 = bt616.1 then (if bt624.2.1 = bt616.2.1 then ((laws_sameBytes.f k bt624.2.2.2 bt616.2.2.2.1).bind fun t637 => (laws_FnFrames.j0 k t594 (!t637) bt587.1 bt587.2.1 bt587.2.2.1 bt587.2.2.2)) else (laws_FnFrames.j0 k t594 true bt587.1 bt587.2.1 bt587.2.2.1 bt587.2.2.2)) else (laws_FnFrames.j0 k t594 true bt587.1 bt587.2.1 bt587.2.2.1 bt587.2.2.2)) else (laws_FnFrames.j0 k t594 true bt587.1 bt587.2.1 bt587.2.2.1 bt587.2.2.2))))))))))))
theorem laws_FnFrames.mono_l : ∀ k, (∀ y0 y1 y2 y3 y4 y5, LeO (laws_FnFrames.j0 k y0 y1 y2 y3 y4 y5) (laws_FnFrames.j0 (k + 1) y0 y1 y2 y3 y4 y5))
 | 0 => fun _ _ _ _ _ _ r h => by simp [laws_FnFrames.j0] at h
 | k + 1 => by
  have ih0 := laws_FnFrames.mono_l k
  ·intro y0 y1 y2 y3 y4 y5
   unfold laws_FnFrames.j0
   have m0_ := @impl_GetFrame.mono
   have m1_ := @impl_PutFrame.mono
   have m2_ := @laws_sameBytes.mono
   have m3_ := @spec_DrawGetFrame.mono
   have m4_ := @spec_DrawPutFrame.mono
   have m5_ := @spec_DrawTagged.mono
   have m6_ := @spec_GetFrame.mono
   exact zR
theorem laws_FnFrames.mono : ∀ a0 k, LeO (laws_FnFrames.f k a0) (laws_FnFrames.f (k + 1) a0) := by
 intro a0 k
 have ih0 := laws_FnFrames.mono_l k
 unfold laws_FnFrames.f
 have m0_ := @impl_GetFrame.mono
 have m1_ := @impl_PutFrame.mono
 have m2_ := @laws_sameBytes.mono
 have m3_ := @spec_DrawGetFrame.mono
 have m4_ := @spec_DrawPutFrame.mono
 have m5_ := @spec_DrawTagged.mono
 have m6_ := @spec_GetFrame.mono
 exact zR
set_option maxHeartbeats 8000000 in
set_option maxRecDepth 100000 in
theorem laws_FnFrames.calls (k : Nat) (A0 : Option Addr) (c0 : Nat) (l0 : List Int) (r : Bool) (w : World) (hr0 : Kd.C (Kd.int .u8) w A0 l0.length l0) (hc0 : l0.length ≤ c0) (h : laws_FnFrames.f k l0 = some r) :
  Calls Try.prog 10 #[.slice A0 l0.length c0] w fun e w' => e = .returned (.bool r) ∧ Below w.heap.size w w' := by
 have hu54 := Try.underlying54
 have HR0 := zA hr0
 have HC0 := zA hc0
 clear hr0 hc0
 have HB := zA (Below.refl w.heap.size w)
 unfold laws_FnFrames.f at h
 have H := h
 clear h
 have HC2 := zA H
 clear H
 go_enter Try.func10, Try.ntmps10
 go_upto_region 0 with (fail)
 have H := HC2.out
 clear HC2
 have HC3 := zA H
 clear H
 go_upto_region 1 with (fail)
 have H := HC3.out
 clear HC3
 obtain ⟨t586, A4, H⟩ := zB H
 try dsimp only at H
 by_cases c5 : t586 = true
 ·subst c5
  rw [if_pos rfl] at H
  have HC6 := zA H
  clear H
  go_upto_region 2 with (first | ((with_reducible refine gate_callee (f := 18) rfl ?_); refine goesL_ (some 16) rfl rfl Try.func18 (by kernel_rfl) rfl #[.slice A0 l0.length c0] rfl zq1 ?_; (with_reducible refine (laws_big.calls _ _ l0 true _ ?side1 ?side2 A4.out).mono ?_); (case side1 => repeat (first | exact (Kd.C_below HR0.out HB.out) | (with_reducible refine Kd.C_alloc ?_ _) | (with_reducible refine Kd.C_drewN ?_ _) | (with_reducible refine Kd.C_drew ?_))); (case side2 => exact HC0.out); rintro e w' ⟨rfl, ⟨nd, rfl⟩⟩; refine ⟨_, rfl, ?_⟩))
  (try simp only [Act.put, List.setIfInBounds_toArray, List.set_cons_zero, List.set_cons_succ])
  have H := HC6.out
  clear HC6
  obtain rfl := Option.some.inj H
  go_wp2
  go_ret
  exact ⟨zq5, zq0⟩
 ·replace c5 := Bool.eq_false_iff.mpr c5
  subst c5
  rw [if_neg zF] at H
  have HC7 := zA H
  clear H
  go_upto_region 3 with (first | ((with_reducible refine gate_callee (f := 18) rfl ?_); refine goesL_ (some 16) rfl rfl Try.func18 (by kernel_rfl) rfl #[.slice A0 l0.length c0] rfl zq1 ?_; (with_reducible refine (laws_big.calls _ _ l0 false _ ?side1 ?side2 A4.out).mono ?_); (case side1 => repeat (first | exact (Kd.C_below HR0.out HB.out) | (with_reducible refine Kd.C_alloc ?_ _) | (with_reducible refine Kd.C_drewN ?_ _) | (with_reducible refine Kd.C_drew ?_))); (case side2 => exact HC0.out); rintro e w' ⟨rfl, ⟨nd, rfl⟩⟩; refine ⟨_, rfl, ?_⟩))
  (try simp only [Act.put, List.setIfInBounds_toArray, List.set_cons_zero, List.set_cons_succ])
  have H := HC7.out
  clear HC7
  obtain ⟨⟨t587, t588, t589, t590⟩, A8, H⟩ := zB H
  try dsimp only at H
  have HC9 := zA H
  clear H
  go_upto_region 4 with (first | ((with_reducible refine gate_callee (f := 74) rfl ?_); refine goesL_ (some 18) rfl rfl Try.func74 (by kernel_rfl) rfl #[.slice A0 l0.length c0] rfl zq1 ?_; (with_reducible refine (spec_DrawPutFrame.calls k _ _ l0 t587 t588 t589 t590 _ ?side1 ?side2 A8.out).mono ?_); (case side1 => repeat (first | exact (Kd.C_below HR0.out HB.out) | (with_reducible refine Kd.C_alloc ?_ _) | (with_reducible refine Kd.C_drewN ?_ _) | (with_reducible refine Kd.C_drew ?_))); (case side2 => exact HC0.out); rintro e w10 ⟨v591, rfl, ho0, hb⟩; refine ⟨_, rfl, ?_⟩; have HO592 := zA (Kd.R_lower ho0 (below_size zq0)); replace HB := zA (below_step zq0 hb); clear hb ho0) | ((with_reducible refine gate_dst (N := 3) rfl ?_); refine box_event ?hg (N := 3) ?hd (cs := #[.int .i64 0, .int .i64 0, .int .i64 0, .slice none 0 0]) (t := 54) ?hr ?_; (case hd => rfl); (case hg => rfl); (case hr => first | (go_simp; done) | (go_simp; rfl)); intro gb593 hg w11 hbox hb; replace HO592 := zA (Kd.R_below zq43 hb); have BK593 := zA (hbox); have GW593 := zA ((zq18 : w.heap.size ≤ gb593)); have GE593 := zA ((zq18 : w.heap.size ≤ gb593)); replace HB := zA (below_step zq0 hb); clear hb hbox hg; have hcz12_0 : w11.cell? ⟨gb593, 0, none⟩ = some (.int .i64 0) := (blk_cell BK593.out 0).trans rfl; have hcz12_1 : w11.cell? ⟨gb593, 1, none⟩ = some (.int .i64 0) := (blk_cell BK593.out 1).trans rfl; have hcz12_2 : w11.cell? ⟨gb593, 2, none⟩ = some (.int .i64 0) := (blk_cell BK593.out 2).trans rfl; have hcz12_3 : w11.cell? ⟨gb593, 3, none⟩ = some (.slice none 0 0) := (blk_cell BK593.out 3).trans rfl; have hfz12_0 := blk_frozen BK593.out 0; have hfz12_1 := blk_frozen BK593.out 1; have hfz12_2 := blk_frozen BK593.out 2; have hfz12_3 := blk_frozen BK593.out 3; obtain ⟨Ao13, co13, eo13⟩ := Kd.R_slice HO592.out; subst eo13))
  (try simp only [Act.put, List.setIfInBounds_toArray, List.set_cons_zero, List.set_cons_succ])
  have H := HC9.out
  clear HC9
  obtain ⟨t594, A14, H⟩ := zB H
  try dsimp only at H
  have HC15 := zA H
  clear H
  have hcz16_0 : w11.cell? ⟨gb593, 0, none⟩ = some (.int .i64 0) := (blk_cell BK593.out 0).trans rfl
  have hcz16_1 : w11.cell? ⟨gb593, 1, none⟩ = some (.int .i64 0) := (blk_cell BK593.out 1).trans rfl
  have hcz16_2 : w11.cell? ⟨gb593, 2, none⟩ = some (.int .i64 0) := (blk_cell BK593.out 2).trans rfl
  have hcz16_3 : w11.cell? ⟨gb593, 3, none⟩ = some (.slice none 0 0) := (blk_cell BK593.out 3).trans rfl
  have hfz16_0 := blk_frozen BK593.out 0
  have hfz16_1 := blk_frozen BK593.out 1
  have hfz16_2 := blk_frozen BK593.out 2
  have hfz16_3 := blk_frozen BK593.out 3
  go_upto_region 5 with (first | ((with_reducible refine gate_callee (f := 75) rfl ?_); refine goesL_ (some 20) rfl rfl Try.func75 (by kernel_rfl) rfl #[.agg #[.int .i64 t587, .int .i64 t588, .int .i64 t589, .slice Ao13 t590.length co13]] rfl zq1 ?_; (with_reducible refine (impl_PutFrame.calls k t587 t588 t589 _ _ t590 t594 _ ?side1 ?side2 A14.out).mono ?_); (case side1 => refine (Kd.R_reads' (e := 5) (base := w.heap.size) (ok := fun k_ => True) (n := t590.length) (c := co13) ?_).2.2; exact zq76); (case side2 => exact (Kd.R_reads' HO592.out).2.1); rintro e w17 ⟨v595, rfl, ho0, hb⟩; refine ⟨_, rfl, ?_⟩; have HO596 := zA (Kd.R_lower (Kd.R_new' ho0 (Kd.R_lt zq76)) (below_size zq58)); replace HO592 := zA (Kd.R_elder' zq76 (Kd.R_base ho0) hb); replace BK593 := zA (blk_below (g := gb593) (o := .cells #[.int .i64 t587, .int .i64 t588, .int .i64 t589, .slice Ao13 t590.length co13] 54 (0, 0)) (by (with_reducible repeat (first | refine blk_drewN ?_ _ | refine blk_drew ?_ | refine blk_alloc ?_ _)); refine blk_put (cs := #[.int .i64 t587, .int .i64 t588, .int .i64 t589, .slice none 0 0]) ?_ 3 _ rfl; (with_reducible repeat (first | refine blk_drewN ?_ _ | refine blk_drew ?_ | refine blk_alloc ?_ _)); refine blk_put (cs := #[.int .i64 t587, .int .i64 t588, .int .i64 0, .slice none 0 0]) ?_ 2 _ rfl; (with_reducible repeat (first | refine blk_drewN ?_ _ | refine blk_drew ?_ | refine blk_alloc ?_ _)); refine blk_put (cs := #[.int .i64 t587, .int .i64 0, .int .i64 0, .slice none 0 0]) ?_ 1 _ rfl; (with_reducible repeat (first | refine blk_drewN ?_ _ | refine blk_drew ?_ | refine blk_alloc ?_ _)); refine blk_put (cs := #[.int .i64 0, .int .i64 0, .int .i64 0, .slice none 0 0]) ?_ 0 _ rfl; (with_reducible repeat (first | refine blk_drewN ?_ _ | refine blk_drew ?_ | refine blk_alloc ?_ _)); exact BK593.out) hb); replace HB := zA (below_step zq58 hb); clear hb ho0))
  (try simp only [Act.put, List.setIfInBounds_toArray, List.set_cons_zero, List.set_cons_succ])
  have H := HC15.out
  clear HC15
  obtain ⟨t597, A18, H⟩ := zB H
  try dsimp only at H
  have HC19 := zA H
  clear H
  go_upto_region 6 with (first | ((with_reducible refine gate_callee (f := 76) rfl ?_); refine goesL_ (some 22) rfl rfl Try.func76 (by kernel_rfl) rfl #[.slice A0 l0.length c0] rfl zq1 ?_; (with_reducible refine (spec_DrawGetFrame.calls k _ _ l0 t597 _ ?side1 ?side2 A18.out).mono ?_); (case side1 => repeat (first | exact (Kd.C_below HR0.out HB.out) | (with_reducible refine Kd.C_alloc ?_ _) | (with_reducible refine Kd.C_drewN ?_ _) | (with_reducible refine Kd.C_drew ?_))); (case side2 => exact HC0.out); rintro e w20 ⟨v598, rfl, ho0, hb⟩; refine ⟨_, rfl, ?_⟩; have HO599 := zA (Kd.R_lower (Kd.R_new' (Kd.R_new' ho0 (Kd.R_lt zq43)) (Kd.R_lt zq48)) (below_size zq58)); replace HO592 := zA (Kd.R_elder' zq43 (Kd.R_base ho0) hb); replace HO596 := zA (Kd.R_elder' zq48 (Kd.R_base ho0) hb); replace BK593 := zA (blk_below (g := gb593) (o := .cells #[.int .i64 t587, .int .i64 t588, .int .i64 t589, .slice Ao13 t590.length co13] 54 (0, 0)) zq15 hb); replace HB := zA (below_step zq58 hb); clear hb ho0))
  (try simp only [Act.put, List.setIfInBounds_toArray, List.set_cons_zero, List.set_cons_succ])
  have H := HC19.out
  clear HC19
  obtain ⟨⟨t600, t601, t602, t603, t606⟩, A21, H⟩ := zB H
  try dsimp only at H
  have HC22 := zA H
  clear H
  obtain ⟨Ao23, co23, eo23⟩ := Kd.R_slice HO599.out
  subst eo23
  go_upto_region 7 with (first | ((with_reducible refine gate_callee (f := 44) rfl ?_); refine goesL_ (some 25) rfl rfl Try.func44 (by kernel_rfl) rfl #[.slice Ao23 t597.length co23] rfl zq1 ?_; (with_reducible refine (impl_GetFrame.calls k _ _ t597 t600 t601 t602 t603 t606 _ ?side1 ?side2 A21.out).mono ?_); (case side1 => repeat (first | exact (Kd.R_reads' HO599.out).2.2 | (with_reducible refine Kd.C_alloc ?_ _) | (with_reducible refine Kd.C_drewN ?_ _) | (with_reducible refine Kd.C_drew ?_))); (case side2 => exact (Kd.R_reads' HO599.out).2.1); rintro e w24 ⟨v604, rfl, ho0, hb⟩; refine ⟨_, rfl, ?_⟩; have HO605 := zA (Kd.R_lower (Kd.R_new' (Kd.R_new' (Kd.R_new' ho0 (Kd.R_lt zq43)) (Kd.R_lt zq48)) (Kd.R_lt zq52)) (below_size zq58)); replace HO592 := zA (Kd.R_elder' zq43 (Kd.R_base ho0) hb); replace HO596 := zA (Kd.R_elder' zq48 (Kd.R_base ho0) hb); replace HO599 := zA (Kd.R_elder' zq52 (Kd.R_base ho0) hb); replace BK593 := zA (blk_below (g := gb593) (o := .cells #[.int .i64 t587, .int .i64 t588, .int .i64 t589, .slice Ao13 t590.length co13] 54 (0, 0)) zq15 hb); replace HB := zA (below_step zq58 hb); clear hb ho0) | ((with_reducible refine gate_dst (N := 6) rfl ?_); refine box_event ?hg (N := 6) ?hd (cs := #[.int .i64 0, .int .i64 0, .int .i64 0, .slice none 0 0]) (t := 54) ?hr ?_; (case hd => rfl); (case hg => rfl); (case hr => first | (go_simp; done) | (go_simp; rfl)); intro gb607 hg w25 hbox hb; replace HO592 := zA (Kd.R_below zq43 hb); replace HO596 := zA (Kd.R_below zq48 hb); replace HO599 := zA (Kd.R_below zq52 hb); replace HO605 := zA (Kd.R_below zq57 hb); have BK607 := zA (hbox); have GW607 := zA ((zq187 : w.heap.size ≤ gb607)); have GE607 := zA ((zq187 : w.heap.size ≤ gb607)); replace HB := zA (below_step zq58 hb); have NB593_607 := zA ((zq68 : gb593 ≠ gb607)); have NB607_593 := zA ((zq69 : gb607 ≠ gb593)); replace BK593 := zA (blk_below (g := gb593) (o := .cells #[.int .i64 t587, .int .i64 t588, .int .i64 t589, .slice Ao13 t590.length co13] 54 (0, 0)) zq15 hb); clear hb hbox hg; have hnb26 := NB607_593.out; have hnc26 := NB593_607.out; have hcz27_0 : w25.cell? ⟨gb607, 0, none⟩ = some (.int .i64 0) := (blk_cell BK607.out 0).trans rfl; have hcz27_1 : w25.cell? ⟨gb607, 1, none⟩ = some (.int .i64 0) := (blk_cell BK607.out 1).trans rfl; have hcz27_2 : w25.cell? ⟨gb607, 2, none⟩ = some (.int .i64 0) := (blk_cell BK607.out 2).trans rfl; have hcz27_3 : w25.cell? ⟨gb607, 3, none⟩ = some (.slice none 0 0) := (blk_cell BK607.out 3).trans rfl; have hfz27_0 := blk_frozen BK607.out 0; have hfz27_1 := blk_frozen BK607.out 1; have hfz27_2 := blk_frozen BK607.out 2; have hfz27_3 := blk_frozen BK607.out 3; obtain ⟨Ao28, co28, eo28⟩ := Kd.R_slice HO605.out; subst eo28))
  (try simp only [Act.put, List.setIfInBounds_toArray, List.set_cons_zero, List.set_cons_succ])
  have H := HC22.out
  clear HC22
  obtain ⟨⟨t608, t609, t610, t611, t614⟩, A29, H⟩ := zB H
  try dsimp only at H
  have HC30 := zA H
  clear H
  go_upto_region 8 with (first | ((with_reducible refine gate_callee (f := 43) rfl ?_); refine goesL_ (some 30) rfl rfl Try.func43 (by kernel_rfl) rfl #[.slice Ao23 t597.length co23] rfl zq1 ?_; (with_reducible refine (spec_GetFrame.calls k _ _ t597 t608 t609 t610 t611 t614 _ ?side1 ?side2 A29.out).mono ?_); (case side1 => refine (Kd.R_reads' (e := 5) (base := w.heap.size) (ok := fun k_ => (((True ∧ some k_ ≠ (.slice Ao13 t590.length co13 : Value).ownBlock) ∧ some k_ ≠ (v595 : Value).ownBlock) ∧ some k_ ≠ (.slice Ao28 t603.length co28 : Value).ownBlock)) (n := t597.length) (c := co23) ?_).2.2; exact zq77); (case side2 => exact (Kd.R_reads' HO599.out).2.1); rintro e w31 ⟨v612, rfl, ho0, hb⟩; refine ⟨_, rfl, ?_⟩; have HO613 := zA (Kd.R_lower (Kd.R_new' (Kd.R_new' (Kd.R_new' (Kd.R_new' ho0 (Kd.R_lt zq132)) (Kd.R_lt zq133)) (Kd.R_lt zq77)) (Kd.R_lt zq134)) (below_size zq95)); replace HO592 := zA (Kd.R_elder' zq132 (Kd.R_base ho0) hb); replace HO596 := zA (Kd.R_elder' zq133 (Kd.R_base ho0) hb); replace HO599 := zA (Kd.R_elder' zq77 (Kd.R_base ho0) hb); replace HO605 := zA (Kd.R_elder' zq134 (Kd.R_base ho0) hb); replace BK593 := zA (blk_below (g := gb593) (o := .cells #[.int .i64 t587, .int .i64 t588, .int .i64 t589, .slice Ao13 t590.length co13] 54 (0, 0)) (by (with_reducible repeat (first | refine blk_drewN ?_ _ | refine blk_drew ?_ | refine blk_alloc ?_ _)); refine blk_far ?_ NB593_607.out _; (with_reducible repeat (first | refine blk_drewN ?_ _ | refine blk_drew ?_ | refine blk_alloc ?_ _)); refine blk_far ?_ NB593_607.out _; (with_reducible repeat (first | refine blk_drewN ?_ _ | refine blk_drew ?_ | refine blk_alloc ?_ _)); refine blk_far ?_ NB593_607.out _; (with_reducible repeat (first | refine blk_drewN ?_ _ | refine blk_drew ?_ | refine blk_alloc ?_ _)); refine blk_far ?_ NB593_607.out _; (with_reducible repeat (first | refine blk_drewN ?_ _ | refine blk_drew ?_ | refine blk_alloc ?_ _)); exact BK593.out) hb); replace BK607 := zA (blk_below (g := gb607) (o := .cells #[.int .i64 t600, .int .i64 t601, .int .i64 t602, .slice Ao28 t603.length co28] 54 (0, 0)) (by (with_reducible repeat (first | refine blk_drewN ?_ _ | refine blk_drew ?_ | refine blk_alloc ?_ _)); refine blk_put (cs := #[.int .i64 t600, .int .i64 t601, .int .i64 t602, .slice none 0 0]) ?_ 3 _ rfl; (with_reducible repeat (first | refine blk_drewN ?_ _ | refine blk_drew ?_ | refine blk_alloc ?_ _)); refine blk_put (cs := #[.int .i64 t600, .int .i64 t601, .int .i64 0, .slice none 0 0]) ?_ 2 _ rfl; (with_reducible repeat (first | refine blk_drewN ?_ _ | refine blk_drew ?_ | refine blk_alloc ?_ _)); refine blk_put (cs := #[.int .i64 t600, .int .i64 0, .int .i64 0, .slice none 0 0]) ?_ 1 _ rfl; (with_reducible repeat (first | refine blk_drewN ?_ _ | refine blk_drew ?_ | refine blk_alloc ?_ _)); refine blk_put (cs := #[.int .i64 0, .int .i64 0, .int .i64 0, .slice none 0 0]) ?_ 0 _ rfl; (with_reducible repeat (first | refine blk_drewN ?_ _ | refine blk_drew ?_ | refine blk_alloc ?_ _)); exact BK607.out) hb); replace HB := zA (below_step zq95 hb); clear hb ho0) | ((with_reducible refine gate_dst (N := 8) rfl ?_); refine box_event ?hg (N := 8) ?hd (cs := #[.int .i64 0, .int .i64 0, .int .i64 0, .slice none 0 0]) (t := 54) ?hr ?_; (case hd => rfl); (case hg => rfl); (case hr => first | (go_simp; done) | (go_simp; rfl)); intro gb615 hg w32 hbox hb; replace HO592 := zA (Kd.R_below zq43 hb); replace HO596 := zA (Kd.R_below zq48 hb); replace HO599 := zA (Kd.R_below zq52 hb); replace HO605 := zA (Kd.R_below zq57 hb); replace HO613 := zA (Kd.R_below zq61 hb); have BK615 := zA (hbox); have GW615 := zA ((zq179 : w.heap.size ≤ gb615)); have GE615 := zA ((zq179 : w.heap.size ≤ gb615)); replace HB := zA (below_step zq95 hb); have NB593_615 := zA ((zq68 : gb593 ≠ gb615)); have NB615_593 := zA ((zq69 : gb615 ≠ gb593)); replace BK593 := zA (blk_below (g := gb593) (o := .cells #[.int .i64 t587, .int .i64 t588, .int .i64 t589, .slice Ao13 t590.length co13] 54 (0, 0)) zq15 hb); have NB607_615 := zA ((zq90 : gb607 ≠ gb615)); have NB615_607 := zA ((zq91 : gb615 ≠ gb607)); replace BK607 := zA (blk_below (g := gb607) (o := .cells #[.int .i64 t600, .int .i64 t601, .int .i64 t602, .slice Ao28 t603.length co28] 54 (0, 0)) zq19 hb); clear hb hbox hg; have hnb33 := NB615_593.out; have hnc33 := NB593_615.out; have hnb34 := NB615_607.out; have hnc34 := NB607_615.out; have hcz35_0 : w32.cell? ⟨gb615, 0, none⟩ = some (.int .i64 0) := (blk_cell BK615.out 0).trans rfl; have hcz35_1 : w32.cell? ⟨gb615, 1, none⟩ = some (.int .i64 0) := (blk_cell BK615.out 1).trans rfl; have hcz35_2 : w32.cell? ⟨gb615, 2, none⟩ = some (.int .i64 0) := (blk_cell BK615.out 2).trans rfl; have hcz35_3 : w32.cell? ⟨gb615, 3, none⟩ = some (.slice none 0 0) := (blk_cell BK615.out 3).trans rfl; have hfz35_0 := blk_frozen BK615.out 0; have hfz35_1 := blk_frozen BK615.out 1; have hfz35_2 := blk_frozen BK615.out 2; have hfz35_3 := blk_frozen BK615.out 3; obtain ⟨Ao36, co36, eo36⟩ := Kd.R_slice HO613.out; subst eo36))
  (try simp only [Act.put, List.setIfInBounds_toArray, List.set_cons_zero, List.set_cons_succ])
  have H := HC30.out
  clear HC30
  obtain ⟨⟨t616, t617, t618, t619, t622⟩, A37, H⟩ := zB H
  try dsimp only at H
  have HC38 := zA H
  clear H
  go_upto_region 9 with (first | ((with_reducible refine gate_callee (f := 77) rfl ?_); refine goesL_ (some 35) rfl rfl Try.func77 (by kernel_rfl) rfl #[.slice A0 l0.length c0] rfl zq1 ?_; (with_reducible refine (spec_DrawTagged.calls k _ _ l0 t616 t617 t618 t619 t622 _ ?side1 ?side2 A37.out).mono ?_); (case side1 => exact Kd.C_below HR0.out zq67); (case side2 => exact HC0.out); rintro e w39 ⟨v620, rfl, ho0, hb⟩; refine ⟨_, rfl, ?_⟩; have HO621 := zA (Kd.R_lower (Kd.R_new' (Kd.R_new' (Kd.R_new' (Kd.R_new' (Kd.R_new' ho0 (Kd.R_lt zq135)) (Kd.R_lt zq136)) (Kd.R_lt zq137)) (Kd.R_lt zq138)) (Kd.R_lt zq139)) (below_size zq67)); replace HO592 := zA (Kd.R_elder' zq135 (Kd.R_base ho0) hb); replace HO596 := zA (Kd.R_elder' zq136 (Kd.R_base ho0) hb); replace HO599 := zA (Kd.R_elder' zq137 (Kd.R_base ho0) hb); replace HO605 := zA (Kd.R_elder' zq138 (Kd.R_base ho0) hb); replace HO613 := zA (Kd.R_elder' zq139 (Kd.R_base ho0) hb); replace BK593 := zA (blk_below (g := gb593) (o := .cells #[.int .i64 t587, .int .i64 t588, .int .i64 t589, .slice Ao13 t590.length co13] 54 (0, 0)) (by (with_reducible repeat (first | refine blk_drewN ?_ _ | refine blk_drew ?_ | refine blk_alloc ?_ _)); refine blk_far ?_ NB593_615.out _; (with_reducible repeat (first | refine blk_drewN ?_ _ | refine blk_drew ?_ | refine blk_alloc ?_ _)); refine blk_far ?_ NB593_615.out _; (with_reducible repeat (first | refine blk_drewN ?_ _ | refine blk_drew ?_ | refine blk_alloc ?_ _)); refine blk_far ?_ NB593_615.out _; (with_reducible repeat (first | refine blk_drewN ?_ _ | refine blk_drew ?_ | refine blk_alloc ?_ _)); refine blk_far ?_ NB593_615.out _; (with_reducible repeat (first | refine blk_drewN ?_ _ | refine blk_drew ?_ | refine blk_alloc ?_ _)); exact BK593.out) hb); replace BK607 := zA (blk_below (g := gb607) (o := .cells #[.int .i64 t600, .int .i64 t601, .int .i64 t602, .slice Ao28 t603.length co28] 54 (0, 0)) (by (with_reducible repeat (first | refine blk_drewN ?_ _ | refine blk_drew ?_ | refine blk_alloc ?_ _)); refine blk_far ?_ NB607_615.out _; (with_reducible repeat (first | refine blk_drewN ?_ _ | refine blk_drew ?_ | refine blk_alloc ?_ _)); refine blk_far ?_ NB607_615.out _; (with_reducible repeat (first | refine blk_drewN ?_ _ | refine blk_drew ?_ | refine blk_alloc ?_ _)); refine blk_far ?_ NB607_615.out _; (with_reducible repeat (first | refine blk_drewN ?_ _ | refine blk_drew ?_ | refine blk_alloc ?_ _)); refine blk_far ?_ NB607_615.out _; (with_reducible repeat (first | refine blk_drewN ?_ _ | refine blk_drew ?_ | refine blk_alloc ?_ _)); exact BK607.out) hb); replace BK615 := zA (blk_below (g := gb615) (o := .cells #[.int .i64 t608, .int .i64 t609, .int .i64 t610, .slice Ao36 t611.length co36] 54 (0, 0)) (by (with_reducible repeat (first | refine blk_drewN ?_ _ | refine blk_drew ?_ | refine blk_alloc ?_ _)); refine blk_put (cs := #[.int .i64 t608, .int .i64 t609, .int .i64 t610, .slice none 0 0]) ?_ 3 _ rfl; (with_reducible repeat (first | refine blk_drewN ?_ _ | refine blk_drew ?_ | refine blk_alloc ?_ _)); refine blk_put (cs := #[.int .i64 t608, .int .i64 t609, .int .i64 0, .slice none 0 0]) ?_ 2 _ rfl; (with_reducible repeat (first | refine blk_drewN ?_ _ | refine blk_drew ?_ | refine blk_alloc ?_ _)); refine blk_put (cs := #[.int .i64 t608, .int .i64 0, .int .i64 0, .slice none 0 0]) ?_ 1 _ rfl; (with_reducible repeat (first | refine blk_drewN ?_ _ | refine blk_drew ?_ | refine blk_alloc ?_ _)); refine blk_put (cs := #[.int .i64 0, .int .i64 0, .int .i64 0, .slice none 0 0]) ?_ 0 _ rfl; (with_reducible repeat (first | refine blk_drewN ?_ _ | refine blk_drew ?_ | refine blk_alloc ?_ _)); exact BK615.out) hb); replace HB := zA (below_step zq67 hb); clear hb ho0) | ((with_reducible refine gate_dst (N := 10) rfl ?_); refine box_event ?hg (N := 10) ?hd (cs := #[.int .i64 0, .int .i64 0, .int .i64 0, .slice none 0 0]) (t := 54) ?hr ?_; (case hd => rfl); (case hg => rfl); (case hr => first | (go_simp; done) | (go_simp; rfl)); intro gb623 hg w40 hbox hb; replace HO592 := zA (Kd.R_below zq43 hb); replace HO596 := zA (Kd.R_below zq48 hb); replace HO599 := zA (Kd.R_below zq52 hb); replace HO605 := zA (Kd.R_below zq57 hb); replace HO613 := zA (Kd.R_below zq61 hb); replace HO621 := zA (Kd.R_below zq66 hb); have BK623 := zA (hbox); have GW623 := zA ((zq170 : w.heap.size ≤ gb623)); have GE623 := zA ((zq170 : w.heap.size ≤ gb623)); replace HB := zA (below_step zq67 hb); have NB593_623 := zA ((zq68 : gb593 ≠ gb623)); have NB623_593 := zA ((zq69 : gb623 ≠ gb593)); replace BK593 := zA (blk_below (g := gb593) (o := .cells #[.int .i64 t587, .int .i64 t588, .int .i64 t589, .slice Ao13 t590.length co13] 54 (0, 0)) zq15 hb); have NB607_623 := zA ((zq90 : gb607 ≠ gb623)); have NB623_607 := zA ((zq91 : gb623 ≠ gb607)); replace BK607 := zA (blk_below (g := gb607) (o := .cells #[.int .i64 t600, .int .i64 t601, .int .i64 t602, .slice Ao28 t603.length co28] 54 (0, 0)) zq19 hb); have NB615_623 := zA ((zq117 : gb615 ≠ gb623)); have NB623_615 := zA ((zq118 : gb623 ≠ gb615)); replace BK615 := zA (blk_below (g := gb615) (o := .cells #[.int .i64 t608, .int .i64 t609, .int .i64 t610, .slice Ao36 t611.length co36] 54 (0, 0)) zq23 hb); clear hb hbox hg; have hnb41 := NB623_593.out; have hnc41 := NB593_623.out; have hnb42 := NB623_607.out; have hnc42 := NB607_623.out; have hnb43 := NB623_615.out; have hnc43 := NB615_623.out; have hcz44_0 : w40.cell? ⟨gb623, 0, none⟩ = some (.int .i64 0) := (blk_cell BK623.out 0).trans rfl; have hcz44_1 : w40.cell? ⟨gb623, 1, none⟩ = some (.int .i64 0) := (blk_cell BK623.out 1).trans rfl; have hcz44_2 : w40.cell? ⟨gb623, 2, none⟩ = some (.int .i64 0) := (blk_cell BK623.out 2).trans rfl; have hcz44_3 : w40.cell? ⟨gb623, 3, none⟩ = some (.slice none 0 0) := (blk_cell BK623.out 3).trans rfl; have hfz44_0 := blk_frozen BK623.out 0; have hfz44_1 := blk_frozen BK623.out 1; have hfz44_2 := blk_frozen BK623.out 2; have hfz44_3 := blk_frozen BK623.out 3; obtain ⟨Ao45, co45, eo45⟩ := Kd.R_slice HO621.out; subst eo45))
  (try simp only [Act.put, List.setIfInBounds_toArray, List.set_cons_zero, List.set_cons_succ])
  have H := HC38.out
  clear HC38
  obtain ⟨⟨t624, t625, t626, t627⟩, A46, H⟩ := zB H
  try dsimp only at H
  have HC47 := zA H
  clear H
  have hnb48 := NB623_593.out
  have hnc48 := NB593_623.out
  have hnb49 := NB623_607.out
  have hnc49 := NB607_623.out
  have hnb50 := NB623_615.out
  have hnc50 := NB615_623.out
  have hcz51_0 : w40.cell? ⟨gb623, 0, none⟩ = some (.int .i64 0) := (blk_cell BK623.out 0).trans rfl
  have hcz51_1 : w40.cell? ⟨gb623, 1, none⟩ = some (.int .i64 0) := (blk_cell BK623.out 1).trans rfl
  have hcz51_2 : w40.cell? ⟨gb623, 2, none⟩ = some (.int .i64 0) := (blk_cell BK623.out 2).trans rfl
  have hcz51_3 : w40.cell? ⟨gb623, 3, none⟩ = some (.slice none 0 0) := (blk_cell BK623.out 3).trans rfl
  have hfz51_0 := blk_frozen BK623.out 0
  have hfz51_1 := blk_frozen BK623.out 1
  have hfz51_2 := blk_frozen BK623.out 2
  have hfz51_3 := blk_frozen BK623.out 3
  go_upto_region 10 with (first | ((with_reducible refine gate_callee (f := 78) rfl ?_); refine goesL_ (some 40) rfl rfl Try.func78 (by kernel_rfl) rfl #[.agg #[.int .i64 t616, .int .i64 t617, .int .i64 t618, .slice Ao45 t619.length co45], .int .i64 t622] rfl zq1 ?_; (with_reducible refine (impl_Tagged.calls t616 t617 t618 _ _ t619 t622 t624 t625 t626 t627 _ ?side1 ?side2 A46.out).mono ?_); (case side1 => refine (Kd.R_reads' (e := 5) (base := w.heap.size) (ok := fun k_ => (((((True ∧ some k_ ≠ (.slice Ao13 t590.length co13 : Value).ownBlock) ∧ some k_ ≠ (v595 : Value).ownBlock) ∧ some k_ ≠ (.slice Ao23 t597.length co23 : Value).ownBlock) ∧ some k_ ≠ (.slice Ao28 t603.length co28 : Value).ownBlock) ∧ some k_ ≠ (.slice Ao36 t611.length co36 : Value).ownBlock)) (n := t619.length) (c := co45) ?_).2.2; exact zq78); (case side2 => exact (Kd.R_reads' HO621.out).2.1); rintro e w52 ⟨v628, rfl, ho0, hb⟩; refine ⟨_, rfl, ?_⟩; have HO629 := zA (Kd.R_lower (Kd.R_new' (Kd.R_new' (Kd.R_new' (Kd.R_new' (Kd.R_new' (Kd.R_new' ho0 (Kd.R_lt zq140)) (Kd.R_lt zq141)) (Kd.R_lt zq142)) (Kd.R_lt zq143)) (Kd.R_lt zq144)) (Kd.R_lt zq78)) (below_size zq71)); replace HO592 := zA (Kd.R_elder' zq140 (Kd.R_base ho0) hb); replace HO596 := zA (Kd.R_elder' zq141 (Kd.R_base ho0) hb); replace HO599 := zA (Kd.R_elder' zq142 (Kd.R_base ho0) hb); replace HO605 := zA (Kd.R_elder' zq143 (Kd.R_base ho0) hb); replace HO613 := zA (Kd.R_elder' zq144 (Kd.R_base ho0) hb); replace HO621 := zA (Kd.R_elder' zq78 (Kd.R_base ho0) hb); replace BK593 := zA (blk_below (g := gb593) (o := .cells #[.int .i64 t587, .int .i64 t588, .int .i64 t589, .slice Ao13 t590.length co13] 54 (0, 0)) (by (with_reducible repeat (first | refine blk_drewN ?_ _ | refine blk_drew ?_ | refine blk_alloc ?_ _)); refine blk_far ?_ NB593_623.out _; (with_reducible repeat (first | refine blk_drewN ?_ _ | refine blk_drew ?_ | refine blk_alloc ?_ _)); refine blk_far ?_ NB593_623.out _; (with_reducible repeat (first | refine blk_drewN ?_ _ | refine blk_drew ?_ | refine blk_alloc ?_ _)); refine blk_far ?_ NB593_623.out _; (with_reducible repeat (first | refine blk_drewN ?_ _ | refine blk_drew ?_ | refine blk_alloc ?_ _)); refine blk_far ?_ NB593_623.out _; (with_reducible repeat (first | refine blk_drewN ?_ _ | refine blk_drew ?_ | refine blk_alloc ?_ _)); exact BK593.out) hb); replace BK607 := zA (blk_below (g := gb607) (o := .cells #[.int .i64 t600, .int .i64 t601, .int .i64 t602, .slice Ao28 t603.length co28] 54 (0, 0)) (by (with_reducible repeat (first | refine blk_drewN ?_ _ | refine blk_drew ?_ | refine blk_alloc ?_ _)); refine blk_far ?_ NB607_623.out _; (with_reducible repeat (first | refine blk_drewN ?_ _ | refine blk_drew ?_ | refine blk_alloc ?_ _)); refine blk_far ?_ NB607_623.out _; (with_reducible repeat (first | refine blk_drewN ?_ _ | refine blk_drew ?_ | refine blk_alloc ?_ _)); refine blk_far ?_ NB607_623.out _; (with_reducible repeat (first | refine blk_drewN ?_ _ | refine blk_drew ?_ | refine blk_alloc ?_ _)); refine blk_far ?_ NB607_623.out _; (with_reducible repeat (first | refine blk_drewN ?_ _ | refine blk_drew ?_ | refine blk_alloc ?_ _)); exact BK607.out) hb); replace BK615 := zA (blk_below (g := gb615) (o := .cells #[.int .i64 t608, .int .i64 t609, .int .i64 t610, .slice Ao36 t611.length co36] 54 (0, 0)) (by (with_reducible repeat (first | refine blk_drewN ?_ _ | refine blk_drew ?_ | refine blk_alloc ?_ _)); refine blk_far ?_ NB615_623.out _; (with_reducible repeat (first | refine blk_drewN ?_ _ | refine blk_drew ?_ | refine blk_alloc ?_ _)); refine blk_far ?_ NB615_623.out _; (with_reducible repeat (first | refine blk_drewN ?_ _ | refine blk_drew ?_ | refine blk_alloc ?_ _)); refine blk_far ?_ NB615_623.out _; (with_reducible repeat (first | refine blk_drewN ?_ _ | refine blk_drew ?_ | refine blk_alloc ?_ _)); refine blk_far ?_ NB615_623.out _; (with_reducible repeat (first | refine blk_drewN ?_ _ | refine blk_drew ?_ | refine blk_alloc ?_ _)); exact BK615.out) hb); replace BK623 := zA (blk_below (g := gb623) (o := .cells #[.int .i64 t616, .int .i64 t617, .int .i64 t618, .slice Ao45 t619.length co45] 54 (0, 0)) (by (with_reducible repeat (first | refine blk_drewN ?_ _ | refine blk_drew ?_ | refine blk_alloc ?_ _)); refine blk_put (cs := #[.int .i64 t616, .int .i64 t617, .int .i64 t618, .slice none 0 0]) ?_ 3 _ rfl; (with_reducible repeat (first | refine blk_drewN ?_ _ | refine blk_drew ?_ | refine blk_alloc ?_ _)); refine blk_put (cs := #[.int .i64 t616, .int .i64 t617, .int .i64 0, .slice none 0 0]) ?_ 2 _ rfl; (with_reducible repeat (first | refine blk_drewN ?_ _ | refine blk_drew ?_ | refine blk_alloc ?_ _)); refine blk_put (cs := #[.int .i64 t616, .int .i64 0, .int .i64 0, .slice none 0 0]) ?_ 1 _ rfl; (with_reducible repeat (first | refine blk_drewN ?_ _ | refine blk_drew ?_ | refine blk_alloc ?_ _)); refine blk_put (cs := #[.int .i64 0, .int .i64 0, .int .i64 0, .slice none 0 0]) ?_ 0 _ rfl; (with_reducible repeat (first | refine blk_drewN ?_ _ | refine blk_drew ?_ | refine blk_alloc ?_ _)); exact BK623.out) hb); replace HB := zA (below_step zq71 hb); clear hb ho0) | ((with_reducible refine gate_dst (N := 12) rfl ?_); refine box_event ?hg (N := 12) ?hd (cs := #[.int .i64 0, .int .i64 0, .int .i64 0, .slice none 0 0]) (t := 54) ?hr ?_; (case hd => rfl); (case hg => rfl); (case hr => first | (go_simp; done) | (go_simp; rfl)); intro gb630 hg w53 hbox hb; replace HO592 := zA (Kd.R_below zq43 hb); replace HO596 := zA (Kd.R_below zq48 hb); replace HO599 := zA (Kd.R_below zq52 hb); replace HO605 := zA (Kd.R_below zq57 hb); replace HO613 := zA (Kd.R_below zq61 hb); replace HO621 := zA (Kd.R_below zq66 hb); replace HO629 := zA (Kd.R_below zq70 hb); have BK630 := zA (hbox); have GW630 := zA ((zq165 : w.heap.size ≤ gb630)); have GE630 := zA ((zq165 : w.heap.size ≤ gb630)); replace HB := zA (below_step zq71 hb); have NB593_630 := zA ((zq68 : gb593 ≠ gb630)); have NB630_593 := zA ((zq69 : gb630 ≠ gb593)); replace BK593 := zA (blk_below (g := gb593) (o := .cells #[.int .i64 t587, .int .i64 t588, .int .i64 t589, .slice Ao13 t590.length co13] 54 (0, 0)) zq15 hb); have NB607_630 := zA ((zq90 : gb607 ≠ gb630)); have NB630_607 := zA ((zq91 : gb630 ≠ gb607)); replace BK607 := zA (blk_below (g := gb607) (o := .cells #[.int .i64 t600, .int .i64 t601, .int .i64 t602, .slice Ao28 t603.length co28] 54 (0, 0)) zq19 hb); have NB615_630 := zA ((zq117 : gb615 ≠ gb630)); have NB630_615 := zA ((zq118 : gb630 ≠ gb615)); replace BK615 := zA (blk_below (g := gb615) (o := .cells #[.int .i64 t608, .int .i64 t609, .int .i64 t610, .slice Ao36 t611.length co36] 54 (0, 0)) zq23 hb); have NB623_630 := zA ((zq167 : gb623 ≠ gb630)); have NB630_623 := zA ((zq168 : gb630 ≠ gb623)); replace BK623 := zA (blk_below (g := gb623) (o := .cells #[.int .i64 t616, .int .i64 t617, .int .i64 t618, .slice Ao45 t619.length co45] 54 (0, 0)) zq26 hb); clear hb hbox hg; have hnb54 := NB630_593.out; have hnc54 := NB593_630.out; have hnb55 := NB630_607.out; have hnc55 := NB607_630.out; have hnb56 := NB630_615.out; have hnc56 := NB615_630.out; have hnb57 := NB630_623.out; have hnc57 := NB623_630.out; have hcz58_0 : w53.cell? ⟨gb630, 0, none⟩ = some (.int .i64 0) := (blk_cell BK630.out 0).trans rfl; have hcz58_1 : w53.cell? ⟨gb630, 1, none⟩ = some (.int .i64 0) := (blk_cell BK630.out 1).trans rfl; have hcz58_2 : w53.cell? ⟨gb630, 2, none⟩ = some (.int .i64 0) := (blk_cell BK630.out 2).trans rfl; have hcz58_3 : w53.cell? ⟨gb630, 3, none⟩ = some (.slice none 0 0) := (blk_cell BK630.out 3).trans rfl; have hfz58_0 := blk_frozen BK630.out 0; have hfz58_1 := blk_frozen BK630.out 1; have hfz58_2 := blk_frozen BK630.out 2; have hfz58_3 := blk_frozen BK630.out 3; obtain ⟨Ao59, co59, eo59⟩ := Kd.R_slice HO629.out; subst eo59))
  (try simp only [Act.put, List.setIfInBounds_toArray, List.set_cons_zero, List.set_cons_succ])
  have H := HC47.out
  clear HC47
  have HC60 := zA H
  clear H
  go_upto_region 10 with (fail)
  go_cut [86] (fun v86 wc => ∃ (kq : Nat) (x86_59 : Bool), v86 = .bool x86_59 ∧ Aside0 (laws_FnFrames.j0 kq t594 x86_59 t587 t588 t589 t590 = some r) ∧ Aside0 (kq ≤ k) ∧ Aside0 (Kd.R (Kd.int .u8) 5 wc w.heap.size (fun k_ => some k_ ≠ ((.slice Ao13 t590.length co13) : Value).ownBlock ∧ some k_ ≠ ((.slice Ao28 t603.length co28) : Value).ownBlock ∧ some k_ ≠ ((.slice Ao36 t611.length co36) : Value).ownBlock ∧ some k_ ≠ ((.slice Ao45 t619.length co45) : Value).ownBlock ∧ some k_ ≠ ((.slice Ao59 t627.length co59) : Value).ownBlock) v595 t594) ∧ Aside0 (Kd.R (Kd.int .u8) 5 wc w.heap.size (fun k_ => some k_ ≠ (v595 : Value).ownBlock ∧ some k_ ≠ ((.slice Ao28 t603.length co28) : Value).ownBlock ∧ some k_ ≠ ((.slice Ao36 t611.length co36) : Value).ownBlock ∧ some k_ ≠ ((.slice Ao45 t619.length co45) : Value).ownBlock ∧ some k_ ≠ ((.slice Ao59 t627.length co59) : Value).ownBlock) (.slice Ao13 t590.length co13) t590) ∧ Aside0 (Kd.R (Kd.int .u8) 5 wc w.heap.size (fun k_ => some k_ ≠ (v595 : Value).ownBlock ∧ some k_ ≠ ((.slice Ao13 t590.length co13) : Value).ownBlock ∧ some k_ ≠ ((.slice Ao36 t611.length co36) : Value).ownBlock ∧ some k_ ≠ ((.slice Ao45 t619.length co45) : Value).ownBlock ∧ some k_ ≠ ((.slice Ao59 t627.length co59) : Value).ownBlock) (.slice Ao28 t603.length co28) t603) ∧ Aside0 (Kd.R (Kd.int .u8) 5 wc w.heap.size (fun k_ => some k_ ≠ (v595 : Value).ownBlock ∧ some k_ ≠ ((.slice Ao13 t590.length co13) : Value).ownBlock ∧ some k_ ≠ ((.slice Ao28 t603.length co28) : Value).ownBlock ∧ some k_ ≠ ((.slice Ao45 t619.length co45) : Value).ownBlock ∧ some k_ ≠ ((.slice Ao59 t627.length co59) : Value).ownBlock) (.slice Ao36 t611.length co36) t611) ∧ Aside0 (Kd.R (Kd.int .u8) 5 wc w.heap.size (fun k_ => some k_ ≠ (v595 : Value).ownBlock ∧ some k_ ≠ ((.slice Ao13 t590.length co13) : Value).ownBlock ∧ some k_ ≠ ((.slice Ao28 t603.length co28) : Value).ownBlock ∧ some k_ ≠ ((.slice Ao36 t611.length co36) : Value).ownBlock ∧ some k_ ≠ ((.slice Ao59 t627.length co59) : Value).ownBlock) (.slice Ao45 t619.length co45) t619) ∧ Aside0 (Kd.R (Kd.int .u8) 5 wc w.heap.size (fun k_ => some k_ ≠ (v595 : Value).ownBlock ∧ some k_ ≠ ((.slice Ao13 t590.length co13) : Value).ownBlock ∧ some k_ ≠ ((.slice Ao28 t603.length co28) : Value).ownBlock ∧ some k_ ≠ ((.slice Ao36 t611.length co36) : Value).ownBlock ∧ some k_ ≠ ((.slice Ao45 t619.length co45) : Value).ownBlock) (.slice Ao59 t627.length co59) t627) ∧ Aside0 (wc.heap[gb593]? = some (.cells #[.int .i64 t587, .int .i64 t588, .int .i64 t589, (.slice Ao13 t590.length co13)] 54 (0, 0))) ∧ Aside0 (wc.heap[gb607]? = some (.cells #[.int .i64 t600, .int .i64 t601, .int .i64 t602, (.slice Ao28 t603.length co28)] 54 (0, 0))) ∧ Aside0 (wc.heap[gb615]? = some (.cells #[.int .i64 t608, .int .i64 t609, .int .i64 t610, (.slice Ao36 t611.length co36)] 54 (0, 0))) ∧ Aside0 (wc.heap[gb623]? = some (.cells #[.int .i64 t616, .int .i64 t617, .int .i64 t618, (.slice Ao45 t619.length co45)] 54 (0, 0))) ∧ Aside0 (wc.heap[gb630]? = some (.cells #[.int .i64 t624, .int .i64 t625, .int .i64 t626, (.slice Ao59 t627.length co59)] 54 (0, 0))) ∧ Aside0 (Below w.heap.size w wc))
  case first =>
   have H := HC60.out
   clear HC60
   by_cases c61 : (t606 != t614) = true
   ·rw [if_pos c61] at H
    have c61b0 : (t606 != t614) = true := c61
    (try (have c61b1 : decide (t606 = t614) = false := by simpa using c61))
    (try (have c61b2 : (t606 == t614) = false := by simpa using c61))
    (try (have c61b3 : ¬ (t606 = t614) := by simpa using c61))
    clear c61
    (first | rw [c61b0] | (simp only [i64_w, i32_w]; rw [c61b0]) | skip)
    have H' := zA H
    clear H
    go_wp2
    go_meet
    case rel => exact ⟨_, (true), zq25, H', ⟨zq97⟩, ⟨zq36⟩, ⟨zq37⟩, ⟨zq32⟩, ⟨zq33⟩, ⟨zq34⟩, ⟨zq35⟩, ⟨zq6⟩, ⟨zq7⟩, ⟨zq8⟩, ⟨zq9⟩, ⟨zq4⟩, ⟨zq2⟩⟩
   ·rw [if_neg c61] at H
    have c61b0 : (t606 != t614) = false := by simpa using c61
    (try (have c61b1 : decide (t606 = t614) = true := by simpa using c61))
    (try (have c61b2 : (t606 == t614) = true := by simpa using c61))
    clear c61
    (first | rw [c61b0] | (simp only [i64_w, i32_w]; rw [c61b0]) | skip)
    by_cases c62 : t606 = true
    ·subst c62
     rw [if_pos rfl] at H
     obtain ⟨t631, A63, H⟩ := zB H
     try dsimp only at H
     by_cases c64 : t631 = true
     ·subst c64
      rw [if_pos rfl] at H
      obtain ⟨t632, A65, H⟩ := zB H
      try dsimp only at H
      obtain ⟨t635, A66, H⟩ := zB H
      try dsimp only at H
      by_cases c67 : t635 = true
      ·subst c67
       rw [if_pos rfl] at H
       by_cases c68 : t626 = t622
       ·rw [if_pos c68] at H
        have c68b0 : (t626 == t622) = true := beq_iff_eq.mpr c68
        have c68b1 : (t626 != t622) = false := bne_eq_false_iff_eq.mpr c68
        clear c68
        by_cases c69 : t624 = t616
        ·rw [if_pos c69] at H
         have c69b0 : (t624 == t616) = true := beq_iff_eq.mpr c69
         have c69b1 : (t624 != t616) = false := bne_eq_false_iff_eq.mpr c69
         clear c69
         by_cases c70 : t625 = t617
         ·rw [if_pos c70] at H
          have c70b0 : (t625 == t617) = true := beq_iff_eq.mpr c70
          have c70b1 : (t625 != t617) = false := bne_eq_false_iff_eq.mpr c70
          clear c70
          obtain ⟨t636, A71, H⟩ := zB H
          try dsimp only at H
          have H' := zA H
          clear H
          have hnb72 := NB607_593.out
          have hnc72 := NB593_607.out
          have hnb73 := NB607_615.out
          have hnc73 := NB615_607.out
          have hnb74 := NB607_623.out
          have hnc74 := NB623_607.out
          have hnb75 := NB607_630.out
          have hnc75 := NB630_607.out
          have hcz76_0 : w53.cell? ⟨gb607, 0, none⟩ = some (.int .i64 t600) := (blk_cell BK607.out 0).trans rfl
          have hcz76_1 : w53.cell? ⟨gb607, 1, none⟩ = some (.int .i64 t601) := (blk_cell BK607.out 1).trans rfl
          have hcz76_2 : w53.cell? ⟨gb607, 2, none⟩ = some (.int .i64 t602) := (blk_cell BK607.out 2).trans rfl
          have hcz76_3 : w53.cell? ⟨gb607, 3, none⟩ = some (.slice Ao28 t603.length co28) := (blk_cell BK607.out 3).trans rfl
          have hfz76_0 := blk_frozen BK607.out 0
          have hfz76_1 := blk_frozen BK607.out 1
          have hfz76_2 := blk_frozen BK607.out 2
          have hfz76_3 := blk_frozen BK607.out 3
          go_wp2_with (first | (go_at_call 79; (with_reducible refine (impl_FrameOk.calls t600 t601 t602 _ _ t603 true _ ?side1 ?side2 A63.out).mono ?_); (case side1 => refine (Kd.R_reads' (e := 5) (base := w.heap.size) (ok := fun k_ => ((((((True ∧ some k_ ≠ (.slice Ao13 t590.length co13 : Value).ownBlock) ∧ some k_ ≠ (v595 : Value).ownBlock) ∧ some k_ ≠ (.slice Ao23 t597.length co23 : Value).ownBlock) ∧ some k_ ≠ (.slice Ao36 t611.length co36 : Value).ownBlock) ∧ some k_ ≠ (.slice Ao45 t619.length co45 : Value).ownBlock) ∧ some k_ ≠ (.slice Ao59 t627.length co59 : Value).ownBlock)) (n := t603.length) (c := co28) ?_).2.2; exact zq10); (case side2 => exact (Kd.R_reads' HO605.out).2.1); rintro e w77 ⟨rfl, hb⟩; replace HO592 := zA (Kd.R_below zq27 hb); replace HO596 := zA (Kd.R_below zq28 hb); replace HO599 := zA (Kd.R_below zq29 hb); replace HO605 := zA (Kd.R_below zq10 hb); replace HO613 := zA (Kd.R_below zq30 hb); replace HO621 := zA (Kd.R_below zq21 hb); replace HO629 := zA (Kd.R_below zq22 hb); replace BK593 := zA (blk_below (g := gb593) (o := .cells #[.int .i64 t587, .int .i64 t588, .int .i64 t589, .slice Ao13 t590.length co13] 54 (0, 0)) zq6 hb); replace BK607 := zA (blk_below (g := gb607) (o := .cells #[.int .i64 t600, .int .i64 t601, .int .i64 t602, .slice Ao28 t603.length co28] 54 (0, 0)) zq7 hb); replace BK615 := zA (blk_below (g := gb615) (o := .cells #[.int .i64 t608, .int .i64 t609, .int .i64 t610, .slice Ao36 t611.length co36] 54 (0, 0)) zq8 hb); replace BK623 := zA (blk_below (g := gb623) (o := .cells #[.int .i64 t616, .int .i64 t617, .int .i64 t618, .slice Ao45 t619.length co45] 54 (0, 0)) zq9 hb); replace BK630 := zA (blk_below (g := gb630) (o := .cells #[.int .i64 t624, .int .i64 t625, .int .i64 t626, .slice Ao59 t627.length co59] 54 (0, 0)) zq4 hb); replace HB := zA (below_step zq2 hb); clear hb; have hcz78_0 : w77.cell? ⟨gb607, 0, none⟩ = some (.int .i64 t600) := (blk_cell BK607.out 0).trans rfl; have hcz78_1 : w77.cell? ⟨gb607, 1, none⟩ = some (.int .i64 t601) := (blk_cell BK607.out 1).trans rfl; have hcz78_2 : w77.cell? ⟨gb607, 2, none⟩ = some (.int .i64 t602) := (blk_cell BK607.out 2).trans rfl; have hcz78_3 : w77.cell? ⟨gb607, 3, none⟩ = some (.slice Ao28 t603.length co28) := (blk_cell BK607.out 3).trans rfl; have hfz78_0 := blk_frozen BK607.out 0; have hfz78_1 := blk_frozen BK607.out 1; have hfz78_2 := blk_frozen BK607.out 2; have hfz78_3 := blk_frozen BK607.out 3) | (go_at_call 75; (with_reducible refine (impl_PutFrame.calls k t600 t601 t602 _ _ t603 t632 _ ?side1 ?side2 A65.out).mono ?_); (case side1 => repeat (first | exact (Kd.R_reads' HO605.out).2.2 | (with_reducible refine Kd.C_alloc ?_ _) | (with_reducible refine Kd.C_drewN ?_ _) | (with_reducible refine Kd.C_drew ?_))); (case side2 => exact (Kd.R_reads' HO605.out).2.1); rintro e w79 ⟨v633, rfl, ho0, hb⟩; have HO634 := zA (Kd.R_lower (Kd.R_new' (Kd.R_new' (Kd.R_new' (Kd.R_new' (Kd.R_new' (Kd.R_new' (Kd.R_new' ho0 (Kd.R_lt zq43)) (Kd.R_lt zq48)) (Kd.R_lt zq52)) (Kd.R_lt zq57)) (Kd.R_lt zq61)) (Kd.R_lt zq66)) (Kd.R_lt zq70)) (below_size zq2)); replace HO592 := zA (Kd.R_elder' zq43 (Kd.R_base ho0) hb); replace HO596 := zA (Kd.R_elder' zq48 (Kd.R_base ho0) hb); replace HO599 := zA (Kd.R_elder' zq52 (Kd.R_base ho0) hb); replace HO605 := zA (Kd.R_elder' zq57 (Kd.R_base ho0) hb); replace HO613 := zA (Kd.R_elder' zq61 (Kd.R_base ho0) hb); replace HO621 := zA (Kd.R_elder' zq66 (Kd.R_base ho0) hb); replace HO629 := zA (Kd.R_elder' zq70 (Kd.R_base ho0) hb); replace BK593 := zA (blk_below (g := gb593) (o := .cells #[.int .i64 t587, .int .i64 t588, .int .i64 t589, .slice Ao13 t590.length co13] 54 (0, 0)) zq15 hb); replace BK607 := zA (blk_below (g := gb607) (o := .cells #[.int .i64 t600, .int .i64 t601, .int .i64 t602, .slice Ao28 t603.length co28] 54 (0, 0)) zq19 hb); replace BK615 := zA (blk_below (g := gb615) (o := .cells #[.int .i64 t608, .int .i64 t609, .int .i64 t610, .slice Ao36 t611.length co36] 54 (0, 0)) zq23 hb); replace BK623 := zA (blk_below (g := gb623) (o := .cells #[.int .i64 t616, .int .i64 t617, .int .i64 t618, .slice Ao45 t619.length co45] 54 (0, 0)) zq26 hb); replace BK630 := zA (blk_below (g := gb630) (o := .cells #[.int .i64 t624, .int .i64 t625, .int .i64 t626, .slice Ao59 t627.length co59] 54 (0, 0)) zq38 hb); replace HB := zA (below_step zq2 hb); clear hb ho0; obtain ⟨Ao80, co80, eo80⟩ := Kd.R_slice HO634.out; subst eo80) | (go_at_call 25; (with_reducible refine (laws_sameBytes.calls k _ _ t632 _ _ t597 true _ ?side1 ?side2 ?side3 ?side4 A66.out).mono ?_); (case side1 => repeat (first | exact (Kd.R_reads' HO634.out).2.2 | (with_reducible refine Kd.C_alloc ?_ _) | (with_reducible refine Kd.C_drewN ?_ _) | (with_reducible refine Kd.C_drew ?_))); (case side2 => exact (Kd.R_reads' HO634.out).2.1); (case side3 => repeat (first | exact (Kd.R_reads' HO599.out).2.2 | (with_reducible refine Kd.C_alloc ?_ _) | (with_reducible refine Kd.C_drewN ?_ _) | (with_reducible refine Kd.C_drew ?_))); (case side4 => exact (Kd.R_reads' HO599.out).2.1); rintro e w' ⟨rfl, ⟨nd, rfl⟩⟩; have hnb81 := NB630_593.out; have hnc81 := NB593_630.out; have hnb82 := NB630_615.out; have hnc82 := NB615_630.out; have hnb83 := NB630_623.out; have hnc83 := NB623_630.out; have hcz84_0 : w79.cell? ⟨gb630, 0, none⟩ = some (.int .i64 t624) := (blk_cell BK630.out 0).trans rfl; have hcz84_1 : w79.cell? ⟨gb630, 1, none⟩ = some (.int .i64 t625) := (blk_cell BK630.out 1).trans rfl; have hcz84_2 : w79.cell? ⟨gb630, 2, none⟩ = some (.int .i64 t626) := (blk_cell BK630.out 2).trans rfl; have hcz84_3 : w79.cell? ⟨gb630, 3, none⟩ = some (.slice Ao59 t627.length co59) := (blk_cell BK630.out 3).trans rfl; have hfz84_0 := blk_frozen BK630.out 0; have hfz84_1 := blk_frozen BK630.out 1; have hfz84_2 := blk_frozen BK630.out 2; have hfz84_3 := blk_frozen BK630.out 3; have hnb85 := NB623_593.out; have hnc85 := NB593_623.out; have hnb86 := NB623_615.out; have hnc86 := NB615_623.out; have hcz87_0 : w79.cell? ⟨gb623, 0, none⟩ = some (.int .i64 t616) := (blk_cell BK623.out 0).trans rfl; have hcz87_1 : w79.cell? ⟨gb623, 1, none⟩ = some (.int .i64 t617) := (blk_cell BK623.out 1).trans rfl; have hcz87_2 : w79.cell? ⟨gb623, 2, none⟩ = some (.int .i64 t618) := (blk_cell BK623.out 2).trans rfl; have hcz87_3 : w79.cell? ⟨gb623, 3, none⟩ = some (.slice Ao45 t619.length co45) := (blk_cell BK623.out 3).trans rfl; have hfz87_0 := blk_frozen BK623.out 0; have hfz87_1 := blk_frozen BK623.out 1; have hfz87_2 := blk_frozen BK623.out 2; have hfz87_3 := blk_frozen BK623.out 3) | (go_at_call 25; (with_reducible refine (laws_sameBytes.calls k _ _ t627 _ _ t619 t636 _ ?side1 ?side2 ?side3 ?side4 A71.out).mono ?_); (case side1 => repeat (first | exact (Kd.R_reads' HO629.out).2.2 | (with_reducible refine Kd.C_alloc ?_ _) | (with_reducible refine Kd.C_drewN ?_ _) | (with_reducible refine Kd.C_drew ?_))); (case side2 => exact (Kd.R_reads' HO629.out).2.1); (case side3 => repeat (first | exact (Kd.R_reads' HO621.out).2.2 | (with_reducible refine Kd.C_alloc ?_ _) | (with_reducible refine Kd.C_drewN ?_ _) | (with_reducible refine Kd.C_drew ?_))); (case side4 => exact (Kd.R_reads' HO621.out).2.1); rintro e w' ⟨rfl, ⟨nd, rfl⟩⟩))
          go_meet
          case rel => exact ⟨_, (!t636), zq25, H', ⟨zq97⟩, ⟨zq87⟩, ⟨zq88⟩, ⟨zq83⟩, ⟨zq84⟩, ⟨zq85⟩, ⟨zq86⟩, ⟨zq15⟩, ⟨zq19⟩, ⟨zq23⟩, ⟨zq26⟩, ⟨zq38⟩, ⟨zq2⟩⟩
         ·rw [if_neg c70] at H
          have c70b0 : (t625 == t617) = false := beq_eq_false_iff_ne.mpr c70
          have c70b1 : (t625 != t617) = true := bne_iff_ne.mpr c70
          have H' := zA H
          clear H
          have hnb88 := NB607_593.out
          have hnc88 := NB593_607.out
          have hnb89 := NB607_615.out
          have hnc89 := NB615_607.out
          have hnb90 := NB607_623.out
          have hnc90 := NB623_607.out
          have hnb91 := NB607_630.out
          have hnc91 := NB630_607.out
          have hcz92_0 : w53.cell? ⟨gb607, 0, none⟩ = some (.int .i64 t600) := (blk_cell BK607.out 0).trans rfl
          have hcz92_1 : w53.cell? ⟨gb607, 1, none⟩ = some (.int .i64 t601) := (blk_cell BK607.out 1).trans rfl
          have hcz92_2 : w53.cell? ⟨gb607, 2, none⟩ = some (.int .i64 t602) := (blk_cell BK607.out 2).trans rfl
          have hcz92_3 : w53.cell? ⟨gb607, 3, none⟩ = some (.slice Ao28 t603.length co28) := (blk_cell BK607.out 3).trans rfl
          have hfz92_0 := blk_frozen BK607.out 0
          have hfz92_1 := blk_frozen BK607.out 1
          have hfz92_2 := blk_frozen BK607.out 2
          have hfz92_3 := blk_frozen BK607.out 3
          go_wp2_with (first | (go_at_call 79; (with_reducible refine (impl_FrameOk.calls t600 t601 t602 _ _ t603 true _ ?side1 ?side2 A63.out).mono ?_); (case side1 => refine (Kd.R_reads' (e := 5) (base := w.heap.size) (ok := fun k_ => ((((((True ∧ some k_ ≠ (.slice Ao13 t590.length co13 : Value).ownBlock) ∧ some k_ ≠ (v595 : Value).ownBlock) ∧ some k_ ≠ (.slice Ao23 t597.length co23 : Value).ownBlock) ∧ some k_ ≠ (.slice Ao36 t611.length co36 : Value).ownBlock) ∧ some k_ ≠ (.slice Ao45 t619.length co45 : Value).ownBlock) ∧ some k_ ≠ (.slice Ao59 t627.length co59 : Value).ownBlock)) (n := t603.length) (c := co28) ?_).2.2; exact zq10); (case side2 => exact (Kd.R_reads' HO605.out).2.1); rintro e w93 ⟨rfl, hb⟩; replace HO592 := zA (Kd.R_below zq27 hb); replace HO596 := zA (Kd.R_below zq28 hb); replace HO599 := zA (Kd.R_below zq29 hb); replace HO605 := zA (Kd.R_below zq10 hb); replace HO613 := zA (Kd.R_below zq30 hb); replace HO621 := zA (Kd.R_below zq21 hb); replace HO629 := zA (Kd.R_below zq22 hb); replace BK593 := zA (blk_below (g := gb593) (o := .cells #[.int .i64 t587, .int .i64 t588, .int .i64 t589, .slice Ao13 t590.length co13] 54 (0, 0)) zq6 hb); replace BK607 := zA (blk_below (g := gb607) (o := .cells #[.int .i64 t600, .int .i64 t601, .int .i64 t602, .slice Ao28 t603.length co28] 54 (0, 0)) zq7 hb); replace BK615 := zA (blk_below (g := gb615) (o := .cells #[.int .i64 t608, .int .i64 t609, .int .i64 t610, .slice Ao36 t611.length co36] 54 (0, 0)) zq8 hb); replace BK623 := zA (blk_below (g := gb623) (o := .cells #[.int .i64 t616, .int .i64 t617, .int .i64 t618, .slice Ao45 t619.length co45] 54 (0, 0)) zq9 hb); replace BK630 := zA (blk_below (g := gb630) (o := .cells #[.int .i64 t624, .int .i64 t625, .int .i64 t626, .slice Ao59 t627.length co59] 54 (0, 0)) zq4 hb); replace HB := zA (below_step zq2 hb); clear hb; have hcz94_0 : w93.cell? ⟨gb607, 0, none⟩ = some (.int .i64 t600) := (blk_cell BK607.out 0).trans rfl; have hcz94_1 : w93.cell? ⟨gb607, 1, none⟩ = some (.int .i64 t601) := (blk_cell BK607.out 1).trans rfl; have hcz94_2 : w93.cell? ⟨gb607, 2, none⟩ = some (.int .i64 t602) := (blk_cell BK607.out 2).trans rfl; have hcz94_3 : w93.cell? ⟨gb607, 3, none⟩ = some (.slice Ao28 t603.length co28) := (blk_cell BK607.out 3).trans rfl; have hfz94_0 := blk_frozen BK607.out 0; have hfz94_1 := blk_frozen BK607.out 1; have hfz94_2 := blk_frozen BK607.out 2; have hfz94_3 := blk_frozen BK607.out 3) | (go_at_call 75; (with_reducible refine (impl_PutFrame.calls k t600 t601 t602 _ _ t603 t632 _ ?side1 ?side2 A65.out).mono ?_); (case side1 => repeat (first | exact (Kd.R_reads' HO605.out).2.2 | (with_reducible refine Kd.C_alloc ?_ _) | (with_reducible refine Kd.C_drewN ?_ _) | (with_reducible refine Kd.C_drew ?_))); (case side2 => exact (Kd.R_reads' HO605.out).2.1); rintro e w95 ⟨v633, rfl, ho0, hb⟩; have HO634 := zA (Kd.R_lower (Kd.R_new' (Kd.R_new' (Kd.R_new' (Kd.R_new' (Kd.R_new' (Kd.R_new' (Kd.R_new' ho0 (Kd.R_lt zq43)) (Kd.R_lt zq48)) (Kd.R_lt zq52)) (Kd.R_lt zq57)) (Kd.R_lt zq61)) (Kd.R_lt zq66)) (Kd.R_lt zq70)) (below_size zq2)); replace HO592 := zA (Kd.R_elder' zq43 (Kd.R_base ho0) hb); replace HO596 := zA (Kd.R_elder' zq48 (Kd.R_base ho0) hb); replace HO599 := zA (Kd.R_elder' zq52 (Kd.R_base ho0) hb); replace HO605 := zA (Kd.R_elder' zq57 (Kd.R_base ho0) hb); replace HO613 := zA (Kd.R_elder' zq61 (Kd.R_base ho0) hb); replace HO621 := zA (Kd.R_elder' zq66 (Kd.R_base ho0) hb); replace HO629 := zA (Kd.R_elder' zq70 (Kd.R_base ho0) hb); replace BK593 := zA (blk_below (g := gb593) (o := .cells #[.int .i64 t587, .int .i64 t588, .int .i64 t589, .slice Ao13 t590.length co13] 54 (0, 0)) zq15 hb); replace BK607 := zA (blk_below (g := gb607) (o := .cells #[.int .i64 t600, .int .i64 t601, .int .i64 t602, .slice Ao28 t603.length co28] 54 (0, 0)) zq19 hb); replace BK615 := zA (blk_below (g := gb615) (o := .cells #[.int .i64 t608, .int .i64 t609, .int .i64 t610, .slice Ao36 t611.length co36] 54 (0, 0)) zq23 hb); replace BK623 := zA (blk_below (g := gb623) (o := .cells #[.int .i64 t616, .int .i64 t617, .int .i64 t618, .slice Ao45 t619.length co45] 54 (0, 0)) zq26 hb); replace BK630 := zA (blk_below (g := gb630) (o := .cells #[.int .i64 t624, .int .i64 t625, .int .i64 t626, .slice Ao59 t627.length co59] 54 (0, 0)) zq38 hb); replace HB := zA (below_step zq2 hb); clear hb ho0; obtain ⟨Ao96, co96, eo96⟩ := Kd.R_slice HO634.out; subst eo96) | (go_at_call 25; (with_reducible refine (laws_sameBytes.calls k _ _ t632 _ _ t597 true _ ?side1 ?side2 ?side3 ?side4 A66.out).mono ?_); (case side1 => repeat (first | exact (Kd.R_reads' HO634.out).2.2 | (with_reducible refine Kd.C_alloc ?_ _) | (with_reducible refine Kd.C_drewN ?_ _) | (with_reducible refine Kd.C_drew ?_))); (case side2 => exact (Kd.R_reads' HO634.out).2.1); (case side3 => repeat (first | exact (Kd.R_reads' HO599.out).2.2 | (with_reducible refine Kd.C_alloc ?_ _) | (with_reducible refine Kd.C_drewN ?_ _) | (with_reducible refine Kd.C_drew ?_))); (case side4 => exact (Kd.R_reads' HO599.out).2.1); rintro e w' ⟨rfl, ⟨nd, rfl⟩⟩; have hnb97 := NB630_593.out; have hnc97 := NB593_630.out; have hnb98 := NB630_615.out; have hnc98 := NB615_630.out; have hnb99 := NB630_623.out; have hnc99 := NB623_630.out; have hcz100_0 : w95.cell? ⟨gb630, 0, none⟩ = some (.int .i64 t624) := (blk_cell BK630.out 0).trans rfl; have hcz100_1 : w95.cell? ⟨gb630, 1, none⟩ = some (.int .i64 t625) := (blk_cell BK630.out 1).trans rfl; have hcz100_2 : w95.cell? ⟨gb630, 2, none⟩ = some (.int .i64 t626) := (blk_cell BK630.out 2).trans rfl; have hcz100_3 : w95.cell? ⟨gb630, 3, none⟩ = some (.slice Ao59 t627.length co59) := (blk_cell BK630.out 3).trans rfl; have hfz100_0 := blk_frozen BK630.out 0; have hfz100_1 := blk_frozen BK630.out 1; have hfz100_2 := blk_frozen BK630.out 2; have hfz100_3 := blk_frozen BK630.out 3; have hnb101 := NB623_593.out; have hnc101 := NB593_623.out; have hnb102 := NB623_615.out; have hnc102 := NB615_623.out; have hcz103_0 : w95.cell? ⟨gb623, 0, none⟩ = some (.int .i64 t616) := (blk_cell BK623.out 0).trans rfl; have hcz103_1 : w95.cell? ⟨gb623, 1, none⟩ = some (.int .i64 t617) := (blk_cell BK623.out 1).trans rfl; have hcz103_2 : w95.cell? ⟨gb623, 2, none⟩ = some (.int .i64 t618) := (blk_cell BK623.out 2).trans rfl; have hcz103_3 : w95.cell? ⟨gb623, 3, none⟩ = some (.slice Ao45 t619.length co45) := (blk_cell BK623.out 3).trans rfl; have hfz103_0 := blk_frozen BK623.out 0; have hfz103_1 := blk_frozen BK623.out 1; have hfz103_2 := blk_frozen BK623.out 2; have hfz103_3 := blk_frozen BK623.out 3))
          go_meet
          case rel => exact ⟨_, (true), zq25, H', ⟨zq97⟩, ⟨zq87⟩, ⟨zq88⟩, ⟨zq83⟩, ⟨zq84⟩, ⟨zq85⟩, ⟨zq86⟩, ⟨zq15⟩, ⟨zq19⟩, ⟨zq23⟩, ⟨zq26⟩, ⟨zq38⟩, ⟨zq2⟩⟩
        ·rw [if_neg c69] at H
         have c69b0 : (t624 == t616) = false := beq_eq_false_iff_ne.mpr c69
         have c69b1 : (t624 != t616) = true := bne_iff_ne.mpr c69
         have H' := zA H
         clear H
         have hnb104 := NB607_593.out
         have hnc104 := NB593_607.out
         have hnb105 := NB607_615.out
         have hnc105 := NB615_607.out
         have hnb106 := NB607_623.out
         have hnc106 := NB623_607.out
         have hnb107 := NB607_630.out
         have hnc107 := NB630_607.out
         have hcz108_0 : w53.cell? ⟨gb607, 0, none⟩ = some (.int .i64 t600) := (blk_cell BK607.out 0).trans rfl
         have hcz108_1 : w53.cell? ⟨gb607, 1, none⟩ = some (.int .i64 t601) := (blk_cell BK607.out 1).trans rfl
         have hcz108_2 : w53.cell? ⟨gb607, 2, none⟩ = some (.int .i64 t602) := (blk_cell BK607.out 2).trans rfl
         have hcz108_3 : w53.cell? ⟨gb607, 3, none⟩ = some (.slice Ao28 t603.length co28) := (blk_cell BK607.out 3).trans rfl
         have hfz108_0 := blk_frozen BK607.out 0
         have hfz108_1 := blk_frozen BK607.out 1
         have hfz108_2 := blk_frozen BK607.out 2
         have hfz108_3 := blk_frozen BK607.out 3
         go_wp2_with (first | (go_at_call 79; (with_reducible refine (impl_FrameOk.calls t600 t601 t602 _ _ t603 true _ ?side1 ?side2 A63.out).mono ?_); (case side1 => refine (Kd.R_reads' (e := 5) (base := w.heap.size) (ok := fun k_ => ((((((True ∧ some k_ ≠ (.slice Ao13 t590.length co13 : Value).ownBlock) ∧ some k_ ≠ (v595 : Value).ownBlock) ∧ some k_ ≠ (.slice Ao23 t597.length co23 : Value).ownBlock) ∧ some k_ ≠ (.slice Ao36 t611.length co36 : Value).ownBlock) ∧ some k_ ≠ (.slice Ao45 t619.length co45 : Value).ownBlock) ∧ some k_ ≠ (.slice Ao59 t627.length co59 : Value).ownBlock)) (n := t603.length) (c := co28) ?_).2.2; exact zq10); (case side2 => exact (Kd.R_reads' HO605.out).2.1); rintro e w109 ⟨rfl, hb⟩; replace HO592 := zA (Kd.R_below zq27 hb); replace HO596 := zA (Kd.R_below zq28 hb); replace HO599 := zA (Kd.R_below zq29 hb); replace HO605 := zA (Kd.R_below zq10 hb); replace HO613 := zA (Kd.R_below zq30 hb); replace HO621 := zA (Kd.R_below zq21 hb); replace HO629 := zA (Kd.R_below zq22 hb); replace BK593 := zA (blk_below (g := gb593) (o := .cells #[.int .i64 t587, .int .i64 t588, .int .i64 t589, .slice Ao13 t590.length co13] 54 (0, 0)) zq6 hb); replace BK607 := zA (blk_below (g := gb607) (o := .cells #[.int .i64 t600, .int .i64 t601, .int .i64 t602, .slice Ao28 t603.length co28] 54 (0, 0)) zq7 hb); replace BK615 := zA (blk_below (g := gb615) (o := .cells #[.int .i64 t608, .int .i64 t609, .int .i64 t610, .slice Ao36 t611.length co36] 54 (0, 0)) zq8 hb); replace BK623 := zA (blk_below (g := gb623) (o := .cells #[.int .i64 t616, .int .i64 t617, .int .i64 t618, .slice Ao45 t619.length co45] 54 (0, 0)) zq9 hb); replace BK630 := zA (blk_below (g := gb630) (o := .cells #[.int .i64 t624, .int .i64 t625, .int .i64 t626, .slice Ao59 t627.length co59] 54 (0, 0)) zq4 hb); replace HB := zA (below_step zq2 hb); clear hb; have hcz110_0 : w109.cell? ⟨gb607, 0, none⟩ = some (.int .i64 t600) := (blk_cell BK607.out 0).trans rfl; have hcz110_1 : w109.cell? ⟨gb607, 1, none⟩ = some (.int .i64 t601) := (blk_cell BK607.out 1).trans rfl; have hcz110_2 : w109.cell? ⟨gb607, 2, none⟩ = some (.int .i64 t602) := (blk_cell BK607.out 2).trans rfl; have hcz110_3 : w109.cell? ⟨gb607, 3, none⟩ = some (.slice Ao28 t603.length co28) := (blk_cell BK607.out 3).trans rfl; have hfz110_0 := blk_frozen BK607.out 0; have hfz110_1 := blk_frozen BK607.out 1; have hfz110_2 := blk_frozen BK607.out 2; have hfz110_3 := blk_frozen BK607.out 3) | (go_at_call 75; (with_reducible refine (impl_PutFrame.calls k t600 t601 t602 _ _ t603 t632 _ ?side1 ?side2 A65.out).mono ?_); (case side1 => repeat (first | exact (Kd.R_reads' HO605.out).2.2 | (with_reducible refine Kd.C_alloc ?_ _) | (with_reducible refine Kd.C_drewN ?_ _) | (with_reducible refine Kd.C_drew ?_))); (case side2 => exact (Kd.R_reads' HO605.out).2.1); rintro e w111 ⟨v633, rfl, ho0, hb⟩; have HO634 := zA (Kd.R_lower (Kd.R_new' (Kd.R_new' (Kd.R_new' (Kd.R_new' (Kd.R_new' (Kd.R_new' (Kd.R_new' ho0 (Kd.R_lt zq43)) (Kd.R_lt zq48)) (Kd.R_lt zq52)) (Kd.R_lt zq57)) (Kd.R_lt zq61)) (Kd.R_lt zq66)) (Kd.R_lt zq70)) (below_size zq2)); replace HO592 := zA (Kd.R_elder' zq43 (Kd.R_base ho0) hb); replace HO596 := zA (Kd.R_elder' zq48 (Kd.R_base ho0) hb); replace HO599 := zA (Kd.R_elder' zq52 (Kd.R_base ho0) hb); replace HO605 := zA (Kd.R_elder' zq57 (Kd.R_base ho0) hb); replace HO613 := zA (Kd.R_elder' zq61 (Kd.R_base ho0) hb); replace HO621 := zA (Kd.R_elder' zq66 (Kd.R_base ho0) hb); replace HO629 := zA (Kd.R_elder' zq70 (Kd.R_base ho0) hb); replace BK593 := zA (blk_below (g := gb593) (o := .cells #[.int .i64 t587, .int .i64 t588, .int .i64 t589, .slice Ao13 t590.length co13] 54 (0, 0)) zq15 hb); replace BK607 := zA (blk_below (g := gb607) (o := .cells #[.int .i64 t600, .int .i64 t601, .int .i64 t602, .slice Ao28 t603.length co28] 54 (0, 0)) zq19 hb); replace BK615 := zA (blk_below (g := gb615) (o := .cells #[.int .i64 t608, .int .i64 t609, .int .i64 t610, .slice Ao36 t611.length co36] 54 (0, 0)) zq23 hb); replace BK623 := zA (blk_below (g := gb623) (o := .cells #[.int .i64 t616, .int .i64 t617, .int .i64 t618, .slice Ao45 t619.length co45] 54 (0, 0)) zq26 hb); replace BK630 := zA (blk_below (g := gb630) (o := .cells #[.int .i64 t624, .int .i64 t625, .int .i64 t626, .slice Ao59 t627.length co59] 54 (0, 0)) zq38 hb); replace HB := zA (below_step zq2 hb); clear hb ho0; obtain ⟨Ao112, co112, eo112⟩ := Kd.R_slice HO634.out; subst eo112) | (go_at_call 25; (with_reducible refine (laws_sameBytes.calls k _ _ t632 _ _ t597 true _ ?side1 ?side2 ?side3 ?side4 A66.out).mono ?_); (case side1 => repeat (first | exact (Kd.R_reads' HO634.out).2.2 | (with_reducible refine Kd.C_alloc ?_ _) | (with_reducible refine Kd.C_drewN ?_ _) | (with_reducible refine Kd.C_drew ?_))); (case side2 => exact (Kd.R_reads' HO634.out).2.1); (case side3 => repeat (first | exact (Kd.R_reads' HO599.out).2.2 | (with_reducible refine Kd.C_alloc ?_ _) | (with_reducible refine Kd.C_drewN ?_ _) | (with_reducible refine Kd.C_drew ?_))); (case side4 => exact (Kd.R_reads' HO599.out).2.1); rintro e w' ⟨rfl, ⟨nd, rfl⟩⟩; have hnb113 := NB630_593.out; have hnc113 := NB593_630.out; have hnb114 := NB630_615.out; have hnc114 := NB615_630.out; have hnb115 := NB630_623.out; have hnc115 := NB623_630.out; have hcz116_0 : w111.cell? ⟨gb630, 0, none⟩ = some (.int .i64 t624) := (blk_cell BK630.out 0).trans rfl; have hcz116_1 : w111.cell? ⟨gb630, 1, none⟩ = some (.int .i64 t625) := (blk_cell BK630.out 1).trans rfl; have hcz116_2 : w111.cell? ⟨gb630, 2, none⟩ = some (.int .i64 t626) := (blk_cell BK630.out 2).trans rfl; have hcz116_3 : w111.cell? ⟨gb630, 3, none⟩ = some (.slice Ao59 t627.length co59) := (blk_cell BK630.out 3).trans rfl; have hfz116_0 := blk_frozen BK630.out 0; have hfz116_1 := blk_frozen BK630.out 1; have hfz116_2 := blk_frozen BK630.out 2; have hfz116_3 := blk_frozen BK630.out 3; have hnb117 := NB623_593.out; have hnc117 := NB593_623.out; have hnb118 := NB623_615.out; have hnc118 := NB615_623.out; have hcz119_0 : w111.cell? ⟨gb623, 0, none⟩ = some (.int .i64 t616) := (blk_cell BK623.out 0).trans rfl; have hcz119_1 : w111.cell? ⟨gb623, 1, none⟩ = some (.int .i64 t617) := (blk_cell BK623.out 1).trans rfl; have hcz119_2 : w111.cell? ⟨gb623, 2, none⟩ = some (.int .i64 t618) := (blk_cell BK623.out 2).trans rfl; have hcz119_3 : w111.cell? ⟨gb623, 3, none⟩ = some (.slice Ao45 t619.length co45) := (blk_cell BK623.out 3).trans rfl; have hfz119_0 := blk_frozen BK623.out 0; have hfz119_1 := blk_frozen BK623.out 1; have hfz119_2 := blk_frozen BK623.out 2; have hfz119_3 := blk_frozen BK623.out 3))
         go_meet
         case rel => exact ⟨_, (true), zq25, H', ⟨zq97⟩, ⟨zq87⟩, ⟨zq88⟩, ⟨zq83⟩, ⟨zq84⟩, ⟨zq85⟩, ⟨zq86⟩, ⟨zq15⟩, ⟨zq19⟩, ⟨zq23⟩, ⟨zq26⟩, ⟨zq38⟩, ⟨zq2⟩⟩
       ·rw [if_neg c68] at H
        have c68b0 : (t626 == t622) = false := beq_eq_false_iff_ne.mpr c68
        have c68b1 : (t626 != t622) = true := bne_iff_ne.mpr c68
        have H' := zA H
        clear H
        have hnb120 := NB607_593.out
        have hnc120 := NB593_607.out
        have hnb121 := NB607_615.out
        have hnc121 := NB615_607.out
        have hnb122 := NB607_623.out
        have hnc122 := NB623_607.out
        have hnb123 := NB607_630.out
        have hnc123 := NB630_607.out
        have hcz124_0 : w53.cell? ⟨gb607, 0, none⟩ = some (.int .i64 t600) := (blk_cell BK607.out 0).trans rfl
        have hcz124_1 : w53.cell? ⟨gb607, 1, none⟩ = some (.int .i64 t601) := (blk_cell BK607.out 1).trans rfl
        have hcz124_2 : w53.cell? ⟨gb607, 2, none⟩ = some (.int .i64 t602) := (blk_cell BK607.out 2).trans rfl
        have hcz124_3 : w53.cell? ⟨gb607, 3, none⟩ = some (.slice Ao28 t603.length co28) := (blk_cell BK607.out 3).trans rfl
        have hfz124_0 := blk_frozen BK607.out 0
        have hfz124_1 := blk_frozen BK607.out 1
        have hfz124_2 := blk_frozen BK607.out 2
        have hfz124_3 := blk_frozen BK607.out 3
        go_wp2_with (first | (go_at_call 79; (with_reducible refine (impl_FrameOk.calls t600 t601 t602 _ _ t603 true _ ?side1 ?side2 A63.out).mono ?_); (case side1 => refine (Kd.R_reads' (e := 5) (base := w.heap.size) (ok := fun k_ => ((((((True ∧ some k_ ≠ (.slice Ao13 t590.length co13 : Value).ownBlock) ∧ some k_ ≠ (v595 : Value).ownBlock) ∧ some k_ ≠ (.slice Ao23 t597.length co23 : Value).ownBlock) ∧ some k_ ≠ (.slice Ao36 t611.length co36 : Value).ownBlock) ∧ some k_ ≠ (.slice Ao45 t619.length co45 : Value).ownBlock) ∧ some k_ ≠ (.slice Ao59 t627.length co59 : Value).ownBlock)) (n := t603.length) (c := co28) ?_).2.2; exact zq10); (case side2 => exact (Kd.R_reads' HO605.out).2.1); rintro e w125 ⟨rfl, hb⟩; replace HO592 := zA (Kd.R_below zq27 hb); replace HO596 := zA (Kd.R_below zq28 hb); replace HO599 := zA (Kd.R_below zq29 hb); replace HO605 := zA (Kd.R_below zq10 hb); replace HO613 := zA (Kd.R_below zq30 hb); replace HO621 := zA (Kd.R_below zq21 hb); replace HO629 := zA (Kd.R_below zq22 hb); replace BK593 := zA (blk_below (g := gb593) (o := .cells #[.int .i64 t587, .int .i64 t588, .int .i64 t589, .slice Ao13 t590.length co13] 54 (0, 0)) zq6 hb); replace BK607 := zA (blk_below (g := gb607) (o := .cells #[.int .i64 t600, .int .i64 t601, .int .i64 t602, .slice Ao28 t603.length co28] 54 (0, 0)) zq7 hb); replace BK615 := zA (blk_below (g := gb615) (o := .cells #[.int .i64 t608, .int .i64 t609, .int .i64 t610, .slice Ao36 t611.length co36] 54 (0, 0)) zq8 hb); replace BK623 := zA (blk_below (g := gb623) (o := .cells #[.int .i64 t616, .int .i64 t617, .int .i64 t618, .slice Ao45 t619.length co45] 54 (0, 0)) zq9 hb); replace BK630 := zA (blk_below (g := gb630) (o := .cells #[.int .i64 t624, .int .i64 t625, .int .i64 t626, .slice Ao59 t627.length co59] 54 (0, 0)) zq4 hb); replace HB := zA (below_step zq2 hb); clear hb; have hcz126_0 : w125.cell? ⟨gb607, 0, none⟩ = some (.int .i64 t600) := (blk_cell BK607.out 0).trans rfl; have hcz126_1 : w125.cell? ⟨gb607, 1, none⟩ = some (.int .i64 t601) := (blk_cell BK607.out 1).trans rfl; have hcz126_2 : w125.cell? ⟨gb607, 2, none⟩ = some (.int .i64 t602) := (blk_cell BK607.out 2).trans rfl; have hcz126_3 : w125.cell? ⟨gb607, 3, none⟩ = some (.slice Ao28 t603.length co28) := (blk_cell BK607.out 3).trans rfl; have hfz126_0 := blk_frozen BK607.out 0; have hfz126_1 := blk_frozen BK607.out 1; have hfz126_2 := blk_frozen BK607.out 2; have hfz126_3 := blk_frozen BK607.out 3) | (go_at_call 75; (with_reducible refine (impl_PutFrame.calls k t600 t601 t602 _ _ t603 t632 _ ?side1 ?side2 A65.out).mono ?_); (case side1 => repeat (first | exact (Kd.R_reads' HO605.out).2.2 | (with_reducible refine Kd.C_alloc ?_ _) | (with_reducible refine Kd.C_drewN ?_ _) | (with_reducible refine Kd.C_drew ?_))); (case side2 => exact (Kd.R_reads' HO605.out).2.1); rintro e w127 ⟨v633, rfl, ho0, hb⟩; have HO634 := zA (Kd.R_lower (Kd.R_new' (Kd.R_new' (Kd.R_new' (Kd.R_new' (Kd.R_new' (Kd.R_new' (Kd.R_new' ho0 (Kd.R_lt zq43)) (Kd.R_lt zq48)) (Kd.R_lt zq52)) (Kd.R_lt zq57)) (Kd.R_lt zq61)) (Kd.R_lt zq66)) (Kd.R_lt zq70)) (below_size zq2)); replace HO592 := zA (Kd.R_elder' zq43 (Kd.R_base ho0) hb); replace HO596 := zA (Kd.R_elder' zq48 (Kd.R_base ho0) hb); replace HO599 := zA (Kd.R_elder' zq52 (Kd.R_base ho0) hb); replace HO605 := zA (Kd.R_elder' zq57 (Kd.R_base ho0) hb); replace HO613 := zA (Kd.R_elder' zq61 (Kd.R_base ho0) hb); replace HO621 := zA (Kd.R_elder' zq66 (Kd.R_base ho0) hb); replace HO629 := zA (Kd.R_elder' zq70 (Kd.R_base ho0) hb); replace BK593 := zA (blk_below (g := gb593) (o := .cells #[.int .i64 t587, .int .i64 t588, .int .i64 t589, .slice Ao13 t590.length co13] 54 (0, 0)) zq15 hb); replace BK607 := zA (blk_below (g := gb607) (o := .cells #[.int .i64 t600, .int .i64 t601, .int .i64 t602, .slice Ao28 t603.length co28] 54 (0, 0)) zq19 hb); replace BK615 := zA (blk_below (g := gb615) (o := .cells #[.int .i64 t608, .int .i64 t609, .int .i64 t610, .slice Ao36 t611.length co36] 54 (0, 0)) zq23 hb); replace BK623 := zA (blk_below (g := gb623) (o := .cells #[.int .i64 t616, .int .i64 t617, .int .i64 t618, .slice Ao45 t619.length co45] 54 (0, 0)) zq26 hb); replace BK630 := zA (blk_below (g := gb630) (o := .cells #[.int .i64 t624, .int .i64 t625, .int .i64 t626, .slice Ao59 t627.length co59] 54 (0, 0)) zq38 hb); replace HB := zA (below_step zq2 hb); clear hb ho0; obtain ⟨Ao128, co128, eo128⟩ := Kd.R_slice HO634.out; subst eo128) | (go_at_call 25; (with_reducible refine (laws_sameBytes.calls k _ _ t632 _ _ t597 true _ ?side1 ?side2 ?side3 ?side4 A66.out).mono ?_); (case side1 => repeat (first | exact (Kd.R_reads' HO634.out).2.2 | (with_reducible refine Kd.C_alloc ?_ _) | (with_reducible refine Kd.C_drewN ?_ _) | (with_reducible refine Kd.C_drew ?_))); (case side2 => exact (Kd.R_reads' HO634.out).2.1); (case side3 => repeat (first | exact (Kd.R_reads' HO599.out).2.2 | (with_reducible refine Kd.C_alloc ?_ _) | (with_reducible refine Kd.C_drewN ?_ _) | (with_reducible refine Kd.C_drew ?_))); (case side4 => exact (Kd.R_reads' HO599.out).2.1); rintro e w' ⟨rfl, ⟨nd, rfl⟩⟩; have hnb129 := NB630_593.out; have hnc129 := NB593_630.out; have hnb130 := NB630_615.out; have hnc130 := NB615_630.out; have hnb131 := NB630_623.out; have hnc131 := NB623_630.out; have hcz132_0 : w127.cell? ⟨gb630, 0, none⟩ = some (.int .i64 t624) := (blk_cell BK630.out 0).trans rfl; have hcz132_1 : w127.cell? ⟨gb630, 1, none⟩ = some (.int .i64 t625) := (blk_cell BK630.out 1).trans rfl; have hcz132_2 : w127.cell? ⟨gb630, 2, none⟩ = some (.int .i64 t626) := (blk_cell BK630.out 2).trans rfl; have hcz132_3 : w127.cell? ⟨gb630, 3, none⟩ = some (.slice Ao59 t627.length co59) := (blk_cell BK630.out 3).trans rfl; have hfz132_0 := blk_frozen BK630.out 0; have hfz132_1 := blk_frozen BK630.out 1; have hfz132_2 := blk_frozen BK630.out 2; have hfz132_3 := blk_frozen BK630.out 3))
        go_meet
        case rel => exact ⟨_, (true), zq25, H', ⟨zq97⟩, ⟨zq87⟩, ⟨zq88⟩, ⟨zq83⟩, ⟨zq84⟩, ⟨zq85⟩, ⟨zq86⟩, ⟨zq15⟩, ⟨zq19⟩, ⟨zq23⟩, ⟨zq26⟩, ⟨zq38⟩, ⟨zq2⟩⟩
      ·replace c67 := Bool.eq_false_iff.mpr c67
       subst c67
       rw [if_neg zF] at H
       have H' := zA H
       clear H
       have hnb133 := NB607_593.out
       have hnc133 := NB593_607.out
       have hnb134 := NB607_615.out
       have hnc134 := NB615_607.out
       have hnb135 := NB607_623.out
       have hnc135 := NB623_607.out
       have hnb136 := NB607_630.out
       have hnc136 := NB630_607.out
       have hcz137_0 : w53.cell? ⟨gb607, 0, none⟩ = some (.int .i64 t600) := (blk_cell BK607.out 0).trans rfl
       have hcz137_1 : w53.cell? ⟨gb607, 1, none⟩ = some (.int .i64 t601) := (blk_cell BK607.out 1).trans rfl
       have hcz137_2 : w53.cell? ⟨gb607, 2, none⟩ = some (.int .i64 t602) := (blk_cell BK607.out 2).trans rfl
       have hcz137_3 : w53.cell? ⟨gb607, 3, none⟩ = some (.slice Ao28 t603.length co28) := (blk_cell BK607.out 3).trans rfl
       have hfz137_0 := blk_frozen BK607.out 0
       have hfz137_1 := blk_frozen BK607.out 1
       have hfz137_2 := blk_frozen BK607.out 2
       have hfz137_3 := blk_frozen BK607.out 3
       go_wp2_with (first | (go_at_call 79; (with_reducible refine (impl_FrameOk.calls t600 t601 t602 _ _ t603 true _ ?side1 ?side2 A63.out).mono ?_); (case side1 => refine (Kd.R_reads' (e := 5) (base := w.heap.size) (ok := fun k_ => ((((((True ∧ some k_ ≠ (.slice Ao13 t590.length co13 : Value).ownBlock) ∧ some k_ ≠ (v595 : Value).ownBlock) ∧ some k_ ≠ (.slice Ao23 t597.length co23 : Value).ownBlock) ∧ some k_ ≠ (.slice Ao36 t611.length co36 : Value).ownBlock) ∧ some k_ ≠ (.slice Ao45 t619.length co45 : Value).ownBlock) ∧ some k_ ≠ (.slice Ao59 t627.length co59 : Value).ownBlock)) (n := t603.length) (c := co28) ?_).2.2; exact zq10); (case side2 => exact (Kd.R_reads' HO605.out).2.1); rintro e w138 ⟨rfl, hb⟩; replace HO592 := zA (Kd.R_below zq27 hb); replace HO596 := zA (Kd.R_below zq28 hb); replace HO599 := zA (Kd.R_below zq29 hb); replace HO605 := zA (Kd.R_below zq10 hb); replace HO613 := zA (Kd.R_below zq30 hb); replace HO621 := zA (Kd.R_below zq21 hb); replace HO629 := zA (Kd.R_below zq22 hb); replace BK593 := zA (blk_below (g := gb593) (o := .cells #[.int .i64 t587, .int .i64 t588, .int .i64 t589, .slice Ao13 t590.length co13] 54 (0, 0)) zq6 hb); replace BK607 := zA (blk_below (g := gb607) (o := .cells #[.int .i64 t600, .int .i64 t601, .int .i64 t602, .slice Ao28 t603.length co28] 54 (0, 0)) zq7 hb); replace BK615 := zA (blk_below (g := gb615) (o := .cells #[.int .i64 t608, .int .i64 t609, .int .i64 t610, .slice Ao36 t611.length co36] 54 (0, 0)) zq8 hb); replace BK623 := zA (blk_below (g := gb623) (o := .cells #[.int .i64 t616, .int .i64 t617, .int .i64 t618, .slice Ao45 t619.length co45] 54 (0, 0)) zq9 hb); replace BK630 := zA (blk_below (g := gb630) (o := .cells #[.int .i64 t624, .int .i64 t625, .int .i64 t626, .slice Ao59 t627.length co59] 54 (0, 0)) zq4 hb); replace HB := zA (below_step zq2 hb); clear hb; have hcz139_0 : w138.cell? ⟨gb607, 0, none⟩ = some (.int .i64 t600) := (blk_cell BK607.out 0).trans rfl; have hcz139_1 : w138.cell? ⟨gb607, 1, none⟩ = some (.int .i64 t601) := (blk_cell BK607.out 1).trans rfl; have hcz139_2 : w138.cell? ⟨gb607, 2, none⟩ = some (.int .i64 t602) := (blk_cell BK607.out 2).trans rfl; have hcz139_3 : w138.cell? ⟨gb607, 3, none⟩ = some (.slice Ao28 t603.length co28) := (blk_cell BK607.out 3).trans rfl; have hfz139_0 := blk_frozen BK607.out 0; have hfz139_1 := blk_frozen BK607.out 1; have hfz139_2 := blk_frozen BK607.out 2; have hfz139_3 := blk_frozen BK607.out 3) | (go_at_call 75; (with_reducible refine (impl_PutFrame.calls k t600 t601 t602 _ _ t603 t632 _ ?side1 ?side2 A65.out).mono ?_); (case side1 => repeat (first | exact (Kd.R_reads' HO605.out).2.2 | (with_reducible refine Kd.C_alloc ?_ _) | (with_reducible refine Kd.C_drewN ?_ _) | (with_reducible refine Kd.C_drew ?_))); (case side2 => exact (Kd.R_reads' HO605.out).2.1); rintro e w140 ⟨v633, rfl, ho0, hb⟩; have HO634 := zA (Kd.R_lower (Kd.R_new' (Kd.R_new' (Kd.R_new' (Kd.R_new' (Kd.R_new' (Kd.R_new' (Kd.R_new' ho0 (Kd.R_lt zq43)) (Kd.R_lt zq48)) (Kd.R_lt zq52)) (Kd.R_lt zq57)) (Kd.R_lt zq61)) (Kd.R_lt zq66)) (Kd.R_lt zq70)) (below_size zq2)); replace HO592 := zA (Kd.R_elder' zq43 (Kd.R_base ho0) hb); replace HO596 := zA (Kd.R_elder' zq48 (Kd.R_base ho0) hb); replace HO599 := zA (Kd.R_elder' zq52 (Kd.R_base ho0) hb); replace HO605 := zA (Kd.R_elder' zq57 (Kd.R_base ho0) hb); replace HO613 := zA (Kd.R_elder' zq61 (Kd.R_base ho0) hb); replace HO621 := zA (Kd.R_elder' zq66 (Kd.R_base ho0) hb); replace HO629 := zA (Kd.R_elder' zq70 (Kd.R_base ho0) hb); replace BK593 := zA (blk_below (g := gb593) (o := .cells #[.int .i64 t587, .int .i64 t588, .int .i64 t589, .slice Ao13 t590.length co13] 54 (0, 0)) zq15 hb); replace BK607 := zA (blk_below (g := gb607) (o := .cells #[.int .i64 t600, .int .i64 t601, .int .i64 t602, .slice Ao28 t603.length co28] 54 (0, 0)) zq19 hb); replace BK615 := zA (blk_below (g := gb615) (o := .cells #[.int .i64 t608, .int .i64 t609, .int .i64 t610, .slice Ao36 t611.length co36] 54 (0, 0)) zq23 hb); replace BK623 := zA (blk_below (g := gb623) (o := .cells #[.int .i64 t616, .int .i64 t617, .int .i64 t618, .slice Ao45 t619.length co45] 54 (0, 0)) zq26 hb); replace BK630 := zA (blk_below (g := gb630) (o := .cells #[.int .i64 t624, .int .i64 t625, .int .i64 t626, .slice Ao59 t627.length co59] 54 (0, 0)) zq38 hb); replace HB := zA (below_step zq2 hb); clear hb ho0; obtain ⟨Ao141, co141, eo141⟩ := Kd.R_slice HO634.out; subst eo141) | (go_at_call 25; (with_reducible refine (laws_sameBytes.calls k _ _ t632 _ _ t597 false _ ?side1 ?side2 ?side3 ?side4 A66.out).mono ?_); (case side1 => repeat (first | exact (Kd.R_reads' HO634.out).2.2 | (with_reducible refine Kd.C_alloc ?_ _) | (with_reducible refine Kd.C_drewN ?_ _) | (with_reducible refine Kd.C_drew ?_))); (case side2 => exact (Kd.R_reads' HO634.out).2.1); (case side3 => repeat (first | exact (Kd.R_reads' HO599.out).2.2 | (with_reducible refine Kd.C_alloc ?_ _) | (with_reducible refine Kd.C_drewN ?_ _) | (with_reducible refine Kd.C_drew ?_))); (case side4 => exact (Kd.R_reads' HO599.out).2.1); rintro e w' ⟨rfl, ⟨nd, rfl⟩⟩))
       go_meet
       case rel => exact ⟨_, (true), zq25, H', ⟨zq97⟩, ⟨zq87⟩, ⟨zq88⟩, ⟨zq83⟩, ⟨zq84⟩, ⟨zq85⟩, ⟨zq86⟩, ⟨zq15⟩, ⟨zq19⟩, ⟨zq23⟩, ⟨zq26⟩, ⟨zq38⟩, ⟨zq2⟩⟩
     ·replace c64 := Bool.eq_false_iff.mpr c64
      subst c64
      rw [if_neg zF] at H
      have H' := zA H
      clear H
      have hnb142 := NB607_593.out
      have hnc142 := NB593_607.out
      have hnb143 := NB607_615.out
      have hnc143 := NB615_607.out
      have hnb144 := NB607_623.out
      have hnc144 := NB623_607.out
      have hnb145 := NB607_630.out
      have hnc145 := NB630_607.out
      have hcz146_0 : w53.cell? ⟨gb607, 0, none⟩ = some (.int .i64 t600) := (blk_cell BK607.out 0).trans rfl
      have hcz146_1 : w53.cell? ⟨gb607, 1, none⟩ = some (.int .i64 t601) := (blk_cell BK607.out 1).trans rfl
      have hcz146_2 : w53.cell? ⟨gb607, 2, none⟩ = some (.int .i64 t602) := (blk_cell BK607.out 2).trans rfl
      have hcz146_3 : w53.cell? ⟨gb607, 3, none⟩ = some (.slice Ao28 t603.length co28) := (blk_cell BK607.out 3).trans rfl
      have hfz146_0 := blk_frozen BK607.out 0
      have hfz146_1 := blk_frozen BK607.out 1
      have hfz146_2 := blk_frozen BK607.out 2
      have hfz146_3 := blk_frozen BK607.out 3
      go_wp2_with (first | (go_at_call 79; (with_reducible refine (impl_FrameOk.calls t600 t601 t602 _ _ t603 false _ ?side1 ?side2 A63.out).mono ?_); (case side1 => refine (Kd.R_reads' (e := 5) (base := w.heap.size) (ok := fun k_ => ((((((True ∧ some k_ ≠ (.slice Ao13 t590.length co13 : Value).ownBlock) ∧ some k_ ≠ (v595 : Value).ownBlock) ∧ some k_ ≠ (.slice Ao23 t597.length co23 : Value).ownBlock) ∧ some k_ ≠ (.slice Ao36 t611.length co36 : Value).ownBlock) ∧ some k_ ≠ (.slice Ao45 t619.length co45 : Value).ownBlock) ∧ some k_ ≠ (.slice Ao59 t627.length co59 : Value).ownBlock)) (n := t603.length) (c := co28) ?_).2.2; exact zq10); (case side2 => exact (Kd.R_reads' HO605.out).2.1); rintro e w147 ⟨rfl, hb⟩; replace HO592 := zA (Kd.R_below zq27 hb); replace HO596 := zA (Kd.R_below zq28 hb); replace HO599 := zA (Kd.R_below zq29 hb); replace HO605 := zA (Kd.R_below zq10 hb); replace HO613 := zA (Kd.R_below zq30 hb); replace HO621 := zA (Kd.R_below zq21 hb); replace HO629 := zA (Kd.R_below zq22 hb); replace BK593 := zA (blk_below (g := gb593) (o := .cells #[.int .i64 t587, .int .i64 t588, .int .i64 t589, .slice Ao13 t590.length co13] 54 (0, 0)) zq6 hb); replace BK607 := zA (blk_below (g := gb607) (o := .cells #[.int .i64 t600, .int .i64 t601, .int .i64 t602, .slice Ao28 t603.length co28] 54 (0, 0)) zq7 hb); replace BK615 := zA (blk_below (g := gb615) (o := .cells #[.int .i64 t608, .int .i64 t609, .int .i64 t610, .slice Ao36 t611.length co36] 54 (0, 0)) zq8 hb); replace BK623 := zA (blk_below (g := gb623) (o := .cells #[.int .i64 t616, .int .i64 t617, .int .i64 t618, .slice Ao45 t619.length co45] 54 (0, 0)) zq9 hb); replace BK630 := zA (blk_below (g := gb630) (o := .cells #[.int .i64 t624, .int .i64 t625, .int .i64 t626, .slice Ao59 t627.length co59] 54 (0, 0)) zq4 hb); replace HB := zA (below_step zq2 hb); clear hb))
      go_meet
      case rel => exact ⟨_, (true), zq25, H', ⟨zq97⟩, ⟨(by (with_reducible repeat (first | apply Kd.R_alloc | apply Kd.R_drewN | apply Kd.R_drew)); exact Kd.R_mono HO596.out (fun _ hk => ⟨hk.1.1.1.1.1.2, ⟨hk.1.1.1.2, ⟨hk.1.1.2, ⟨hk.1.2, hk.2⟩⟩⟩⟩))⟩, ⟨(by (with_reducible repeat (first | apply Kd.R_alloc | apply Kd.R_drewN | apply Kd.R_drew)); exact Kd.R_mono HO592.out (fun _ hk => ⟨hk.1.1.1.1.1.2, ⟨hk.1.1.1.2, ⟨hk.1.1.2, ⟨hk.1.2, hk.2⟩⟩⟩⟩))⟩, ⟨(by (with_reducible repeat (first | apply Kd.R_alloc | apply Kd.R_drewN | apply Kd.R_drew)); exact Kd.R_mono HO605.out (fun _ hk => ⟨hk.1.1.1.1.2, ⟨hk.1.1.1.1.1.2, ⟨hk.1.1.2, ⟨hk.1.2, hk.2⟩⟩⟩⟩))⟩, ⟨(by (with_reducible repeat (first | apply Kd.R_alloc | apply Kd.R_drewN | apply Kd.R_drew)); exact Kd.R_mono HO613.out (fun _ hk => ⟨hk.1.1.1.1.2, ⟨hk.1.1.1.1.1.2, ⟨hk.1.1.2, ⟨hk.1.2, hk.2⟩⟩⟩⟩))⟩, ⟨(by (with_reducible repeat (first | apply Kd.R_alloc | apply Kd.R_drewN | apply Kd.R_drew)); exact Kd.R_mono HO621.out (fun _ hk => ⟨hk.1.1.1.1.2, ⟨hk.1.1.1.1.1.2, ⟨hk.1.1.2, ⟨hk.1.2, hk.2⟩⟩⟩⟩))⟩, ⟨(by (with_reducible repeat (first | apply Kd.R_alloc | apply Kd.R_drewN | apply Kd.R_drew)); exact Kd.R_mono HO629.out (fun _ hk => ⟨hk.1.1.1.1.2, ⟨hk.1.1.1.1.1.2, ⟨hk.1.1.2, ⟨hk.1.2, hk.2⟩⟩⟩⟩))⟩, ⟨zq15⟩, ⟨zq19⟩, ⟨zq23⟩, ⟨zq26⟩, ⟨zq38⟩, ⟨zq2⟩⟩
    ·replace c62 := Bool.eq_false_iff.mpr c62
     subst c62
     rw [if_neg zF] at H
     by_cases c148 : t626 = t622
     ·rw [if_pos c148] at H
      have c148b0 : (t626 == t622) = true := beq_iff_eq.mpr c148
      have c148b1 : (t626 != t622) = false := bne_eq_false_iff_eq.mpr c148
      clear c148
      by_cases c149 : t624 = t616
      ·rw [if_pos c149] at H
       have c149b0 : (t624 == t616) = true := beq_iff_eq.mpr c149
       have c149b1 : (t624 != t616) = false := bne_eq_false_iff_eq.mpr c149
       clear c149
       by_cases c150 : t625 = t617
       ·rw [if_pos c150] at H
        have c150b0 : (t625 == t617) = true := beq_iff_eq.mpr c150
        have c150b1 : (t625 != t617) = false := bne_eq_false_iff_eq.mpr c150
        clear c150
        obtain ⟨t637, A151, H⟩ := zB H
        try dsimp only at H
        have H' := zA H
        clear H
        have hnb152 := NB630_593.out
        have hnc152 := NB593_630.out
        have hnb153 := NB630_607.out
        have hnc153 := NB607_630.out
        have hnb154 := NB630_615.out
        have hnc154 := NB615_630.out
        have hnb155 := NB630_623.out
        have hnc155 := NB623_630.out
        have hcz156_0 : w53.cell? ⟨gb630, 0, none⟩ = some (.int .i64 0) := (blk_cell BK630.out 0).trans rfl
        have hcz156_1 : w53.cell? ⟨gb630, 1, none⟩ = some (.int .i64 0) := (blk_cell BK630.out 1).trans rfl
        have hcz156_2 : w53.cell? ⟨gb630, 2, none⟩ = some (.int .i64 0) := (blk_cell BK630.out 2).trans rfl
        have hcz156_3 : w53.cell? ⟨gb630, 3, none⟩ = some (.slice none 0 0) := (blk_cell BK630.out 3).trans rfl
        have hfz156_0 := blk_frozen BK630.out 0
        have hfz156_1 := blk_frozen BK630.out 1
        have hfz156_2 := blk_frozen BK630.out 2
        have hfz156_3 := blk_frozen BK630.out 3
        have hnb157 := NB623_593.out
        have hnc157 := NB593_623.out
        have hnb158 := NB623_607.out
        have hnc158 := NB607_623.out
        have hnb159 := NB623_615.out
        have hnc159 := NB615_623.out
        have hcz160_0 : w53.cell? ⟨gb623, 0, none⟩ = some (.int .i64 t616) := (blk_cell BK623.out 0).trans rfl
        have hcz160_1 : w53.cell? ⟨gb623, 1, none⟩ = some (.int .i64 t617) := (blk_cell BK623.out 1).trans rfl
        have hcz160_2 : w53.cell? ⟨gb623, 2, none⟩ = some (.int .i64 t618) := (blk_cell BK623.out 2).trans rfl
        have hcz160_3 : w53.cell? ⟨gb623, 3, none⟩ = some (.slice Ao45 t619.length co45) := (blk_cell BK623.out 3).trans rfl
        have hfz160_0 := blk_frozen BK623.out 0
        have hfz160_1 := blk_frozen BK623.out 1
        have hfz160_2 := blk_frozen BK623.out 2
        have hfz160_3 := blk_frozen BK623.out 3
        go_wp2_with (first | (go_at_call 25; (with_reducible refine (laws_sameBytes.calls k _ _ t627 _ _ t619 t637 _ ?side1 ?side2 ?side3 ?side4 A151.out).mono ?_); (case side1 => refine (Kd.R_reads' (e := 5) (base := w.heap.size) (ok := fun k_ => ((((((True ∧ some k_ ≠ (.slice Ao13 t590.length co13 : Value).ownBlock) ∧ some k_ ≠ (v595 : Value).ownBlock) ∧ some k_ ≠ (.slice Ao23 t597.length co23 : Value).ownBlock) ∧ some k_ ≠ (.slice Ao28 t603.length co28 : Value).ownBlock) ∧ some k_ ≠ (.slice Ao36 t611.length co36 : Value).ownBlock) ∧ some k_ ≠ (.slice Ao45 t619.length co45 : Value).ownBlock)) (n := t627.length) (c := co59) ?_).2.2; exact zq22); (case side2 => exact (Kd.R_reads' HO629.out).2.1); (case side3 => refine (Kd.R_reads' (e := 5) (base := w.heap.size) (ok := fun k_ => ((((((True ∧ some k_ ≠ (.slice Ao13 t590.length co13 : Value).ownBlock) ∧ some k_ ≠ (v595 : Value).ownBlock) ∧ some k_ ≠ (.slice Ao23 t597.length co23 : Value).ownBlock) ∧ some k_ ≠ (.slice Ao28 t603.length co28 : Value).ownBlock) ∧ some k_ ≠ (.slice Ao36 t611.length co36 : Value).ownBlock) ∧ some k_ ≠ (.slice Ao59 t627.length co59 : Value).ownBlock)) (n := t619.length) (c := co45) ?_).2.2; exact zq21); (case side4 => exact (Kd.R_reads' HO621.out).2.1); rintro e w' ⟨rfl, ⟨nd, rfl⟩⟩))
        go_meet
        case rel => exact ⟨_, (!t637), zq25, H', ⟨zq97⟩, ⟨zq36⟩, ⟨zq37⟩, ⟨zq32⟩, ⟨zq33⟩, ⟨zq34⟩, ⟨zq35⟩, ⟨zq6⟩, ⟨zq7⟩, ⟨zq8⟩, ⟨zq9⟩, ⟨zq4⟩, ⟨zq2⟩⟩
       ·rw [if_neg c150] at H
        have c150b0 : (t625 == t617) = false := beq_eq_false_iff_ne.mpr c150
        have c150b1 : (t625 != t617) = true := bne_iff_ne.mpr c150
        have H' := zA H
        clear H
        have hnb161 := NB630_593.out
        have hnc161 := NB593_630.out
        have hnb162 := NB630_607.out
        have hnc162 := NB607_630.out
        have hnb163 := NB630_615.out
        have hnc163 := NB615_630.out
        have hnb164 := NB630_623.out
        have hnc164 := NB623_630.out
        have hcz165_0 : w53.cell? ⟨gb630, 0, none⟩ = some (.int .i64 0) := (blk_cell BK630.out 0).trans rfl
        have hcz165_1 : w53.cell? ⟨gb630, 1, none⟩ = some (.int .i64 0) := (blk_cell BK630.out 1).trans rfl
        have hcz165_2 : w53.cell? ⟨gb630, 2, none⟩ = some (.int .i64 0) := (blk_cell BK630.out 2).trans rfl
        have hcz165_3 : w53.cell? ⟨gb630, 3, none⟩ = some (.slice none 0 0) := (blk_cell BK630.out 3).trans rfl
        have hfz165_0 := blk_frozen BK630.out 0
        have hfz165_1 := blk_frozen BK630.out 1
        have hfz165_2 := blk_frozen BK630.out 2
        have hfz165_3 := blk_frozen BK630.out 3
        have hnb166 := NB623_593.out
        have hnc166 := NB593_623.out
        have hnb167 := NB623_607.out
        have hnc167 := NB607_623.out
        have hnb168 := NB623_615.out
        have hnc168 := NB615_623.out
        have hcz169_0 : w53.cell? ⟨gb623, 0, none⟩ = some (.int .i64 t616) := (blk_cell BK623.out 0).trans rfl
        have hcz169_1 : w53.cell? ⟨gb623, 1, none⟩ = some (.int .i64 t617) := (blk_cell BK623.out 1).trans rfl
        have hcz169_2 : w53.cell? ⟨gb623, 2, none⟩ = some (.int .i64 t618) := (blk_cell BK623.out 2).trans rfl
        have hcz169_3 : w53.cell? ⟨gb623, 3, none⟩ = some (.slice Ao45 t619.length co45) := (blk_cell BK623.out 3).trans rfl
        have hfz169_0 := blk_frozen BK623.out 0
        have hfz169_1 := blk_frozen BK623.out 1
        have hfz169_2 := blk_frozen BK623.out 2
        have hfz169_3 := blk_frozen BK623.out 3
        go_wp2
        go_meet
        case rel => exact ⟨_, (true), zq25, H', ⟨zq97⟩, ⟨zq36⟩, ⟨zq37⟩, ⟨zq32⟩, ⟨zq33⟩, ⟨zq34⟩, ⟨zq35⟩, ⟨zq6⟩, ⟨zq7⟩, ⟨zq8⟩, ⟨zq9⟩, ⟨zq4⟩, ⟨zq2⟩⟩
      ·rw [if_neg c149] at H
       have c149b0 : (t624 == t616) = false := beq_eq_false_iff_ne.mpr c149
       have c149b1 : (t624 != t616) = true := bne_iff_ne.mpr c149
       have H' := zA H
       clear H
       have hnb170 := NB630_593.out
       have hnc170 := NB593_630.out
       have hnb171 := NB630_607.out
       have hnc171 := NB607_630.out
       have hnb172 := NB630_615.out
       have hnc172 := NB615_630.out
       have hnb173 := NB630_623.out
       have hnc173 := NB623_630.out
       have hcz174_0 : w53.cell? ⟨gb630, 0, none⟩ = some (.int .i64 0) := (blk_cell BK630.out 0).trans rfl
       have hcz174_1 : w53.cell? ⟨gb630, 1, none⟩ = some (.int .i64 0) := (blk_cell BK630.out 1).trans rfl
       have hcz174_2 : w53.cell? ⟨gb630, 2, none⟩ = some (.int .i64 0) := (blk_cell BK630.out 2).trans rfl
       have hcz174_3 : w53.cell? ⟨gb630, 3, none⟩ = some (.slice none 0 0) := (blk_cell BK630.out 3).trans rfl
       have hfz174_0 := blk_frozen BK630.out 0
       have hfz174_1 := blk_frozen BK630.out 1
       have hfz174_2 := blk_frozen BK630.out 2
       have hfz174_3 := blk_frozen BK630.out 3
       have hnb175 := NB623_593.out
       have hnc175 := NB593_623.out
       have hnb176 := NB623_607.out
       have hnc176 := NB607_623.out
       have hnb177 := NB623_615.out
       have hnc177 := NB615_623.out
       have hcz178_0 : w53.cell? ⟨gb623, 0, none⟩ = some (.int .i64 t616) := (blk_cell BK623.out 0).trans rfl
       have hcz178_1 : w53.cell? ⟨gb623, 1, none⟩ = some (.int .i64 t617) := (blk_cell BK623.out 1).trans rfl
       have hcz178_2 : w53.cell? ⟨gb623, 2, none⟩ = some (.int .i64 t618) := (blk_cell BK623.out 2).trans rfl
       have hcz178_3 : w53.cell? ⟨gb623, 3, none⟩ = some (.slice Ao45 t619.length co45) := (blk_cell BK623.out 3).trans rfl
       have hfz178_0 := blk_frozen BK623.out 0
       have hfz178_1 := blk_frozen BK623.out 1
       have hfz178_2 := blk_frozen BK623.out 2
       have hfz178_3 := blk_frozen BK623.out 3
       go_wp2
       go_meet
       case rel => exact ⟨_, (true), zq25, H', ⟨zq97⟩, ⟨zq36⟩, ⟨zq37⟩, ⟨zq32⟩, ⟨zq33⟩, ⟨zq34⟩, ⟨zq35⟩, ⟨zq6⟩, ⟨zq7⟩, ⟨zq8⟩, ⟨zq9⟩, ⟨zq4⟩, ⟨zq2⟩⟩
     ·rw [if_neg c148] at H
      have c148b0 : (t626 == t622) = false := beq_eq_false_iff_ne.mpr c148
      have c148b1 : (t626 != t622) = true := bne_iff_ne.mpr c148
      have H' := zA H
      clear H
      have hnb179 := NB630_593.out
      have hnc179 := NB593_630.out
      have hnb180 := NB630_607.out
      have hnc180 := NB607_630.out
      have hnb181 := NB630_615.out
      have hnc181 := NB615_630.out
      have hnb182 := NB630_623.out
      have hnc182 := NB623_630.out
      have hcz183_0 : w53.cell? ⟨gb630, 0, none⟩ = some (.int .i64 0) := (blk_cell BK630.out 0).trans rfl
      have hcz183_1 : w53.cell? ⟨gb630, 1, none⟩ = some (.int .i64 0) := (blk_cell BK630.out 1).trans rfl
      have hcz183_2 : w53.cell? ⟨gb630, 2, none⟩ = some (.int .i64 0) := (blk_cell BK630.out 2).trans rfl
      have hcz183_3 : w53.cell? ⟨gb630, 3, none⟩ = some (.slice none 0 0) := (blk_cell BK630.out 3).trans rfl
      have hfz183_0 := blk_frozen BK630.out 0
      have hfz183_1 := blk_frozen BK630.out 1
      have hfz183_2 := blk_frozen BK630.out 2
      have hfz183_3 := blk_frozen BK630.out 3
      go_wp2
      go_meet
      case rel => exact ⟨_, (true), zq25, H', ⟨zq97⟩, ⟨zq36⟩, ⟨zq37⟩, ⟨zq32⟩, ⟨zq33⟩, ⟨zq34⟩, ⟨zq35⟩, ⟨zq6⟩, ⟨zq7⟩, ⟨zq8⟩, ⟨zq9⟩, ⟨zq4⟩, ⟨zq2⟩⟩
  case rest =>
   clear HC60
   try clear c1
   try clear c2
   try clear p2
   try clear c3
   try clear c4
   try clear c5
   try clear c6
   try clear c7
   try clear c8
   try clear c9
   try clear c10
   try clear c11
   try clear c12
   try clear c13
   try clear c14
   try clear c15
   try clear c16
   try clear c17
   try clear c18
   try clear c26
   try clear c33
   try clear c34
   try clear c41
   try clear c42
   try clear c43
   try clear c44
   try clear c48
   try clear c49
   try clear c50
   try clear c54
   try clear c55
   try clear c56
   try clear c57
   try clear c61
   try clear c61b0
   try clear c61b1
   try clear c61b2
   try clear c62
   try clear c64
   try clear c67
   try clear c68
   try clear c68b0
   try clear c68b1
   try clear c69
   try clear c69b0
   try clear c69b1
   try clear c70
   try clear c70b0
   try clear c70b1
   try clear c72
   try clear c73
   try clear c74
   try clear c75
   try clear c76
   try clear c77
   try clear c78
   try clear c81
   try clear c82
   try clear c83
   try clear c85
   try clear c86
   try clear c88
   try clear c89
   try clear c90
   try clear c91
   try clear c97
   try clear c98
   try clear c99
   try clear c101
   try clear c102
   try clear c104
   try clear c105
   try clear c106
   try clear c107
   try clear c113
   try clear c114
   try clear c115
   try clear c117
   try clear c118
   try clear c120
   try clear c121
   try clear c122
   try clear c123
   try clear c129
   try clear c130
   try clear c131
   try clear c133
   try clear c134
   try clear c135
   try clear c136
   try clear c142
   try clear c143
   try clear c144
   try clear c145
   try clear c148
   try clear c148b0
   try clear c148b1
   try clear c149
   try clear c149b0
   try clear c149b1
   try clear c150
   try clear c150b0
   try clear c150b1
   try clear c152
   try clear c153
   try clear c154
   try clear c155
   try clear c157
   try clear c158
   try clear c159
   try clear c161
   try clear c162
   try clear c163
   try clear c164
   try clear c166
   try clear c167
   try clear c168
   try clear c170
   try clear c171
   try clear c172
   try clear c173
   try clear c175
   try clear c176
   try clear c177
   try clear c179
   try clear c180
   try clear c181
   try clear c182
   try clear hcz100_0
   try clear hcz100_1
   try clear hcz100_2
   try clear hcz100_3
   try clear hcz103_0
   try clear hcz103_1
   try clear hcz103_2
   try clear hcz103_3
   try clear hcz108_0
   try clear hcz108_1
   try clear hcz108_2
   try clear hcz108_3
   try clear hcz110_0
   try clear hcz110_1
   try clear hcz110_2
   try clear hcz110_3
   try clear hcz116_0
   try clear hcz116_1
   try clear hcz116_2
   try clear hcz116_3
   try clear hcz119_0
   try clear hcz119_1
   try clear hcz119_2
   try clear hcz119_3
   try clear hcz124_0
   try clear hcz124_1
   try clear hcz124_2
   try clear hcz124_3
   try clear hcz126_0
   try clear hcz126_1
   try clear hcz126_2
   try clear hcz126_3
   try clear hcz12_0
   try clear hcz12_1
   try clear hcz12_2
   try clear hcz12_3
   try clear hcz132_0
   try clear hcz132_1
   try clear hcz132_2
   try clear hcz132_3
   try clear hcz137_0
   try clear hcz137_1
   try clear hcz137_2
   try clear hcz137_3
   try clear hcz139_0
   try clear hcz139_1
   try clear hcz139_2
   try clear hcz139_3
   try clear hcz146_0
   try clear hcz146_1
   try clear hcz146_2
   try clear hcz146_3
   try clear hcz156_0
   try clear hcz156_1
   try clear hcz156_2
   try clear hcz156_3
   try clear hcz160_0
   try clear hcz160_1
   try clear hcz160_2
   try clear hcz160_3
   try clear hcz165_0
   try clear hcz165_1
   try clear hcz165_2
   try clear hcz165_3
   try clear hcz169_0
   try clear hcz169_1
   try clear hcz169_2
   try clear hcz169_3
   try clear hcz16_0
   try clear hcz16_1
   try clear hcz16_2
   try clear hcz16_3
   try clear hcz174_0
   try clear hcz174_1
   try clear hcz174_2
   try clear hcz174_3
   try clear hcz178_0
   try clear hcz178_1
   try clear hcz178_2
   try clear hcz178_3
   try clear hcz183_0
   try clear hcz183_1
   try clear hcz183_2
   try clear hcz183_3
   try clear hcz27_0
   try clear hcz27_1
   try clear hcz27_2
   try clear hcz27_3
   try clear hcz35_0
   try clear hcz35_1
   try clear hcz35_2
   try clear hcz35_3
   try clear hcz44_0
   try clear hcz44_1
   try clear hcz44_2
   try clear hcz44_3
   try clear hcz51_0
   try clear hcz51_1
   try clear hcz51_2
   try clear hcz51_3
   try clear hcz58_0
   try clear hcz58_1
   try clear hcz58_2
   try clear hcz58_3
   try clear hcz76_0
   try clear hcz76_1
   try clear hcz76_2
   try clear hcz76_3
   try clear hcz78_0
   try clear hcz78_1
   try clear hcz78_2
   try clear hcz78_3
   try clear hcz84_0
   try clear hcz84_1
   try clear hcz84_2
   try clear hcz84_3
   try clear hcz87_0
   try clear hcz87_1
   try clear hcz87_2
   try clear hcz87_3
   try clear hcz92_0
   try clear hcz92_1
   try clear hcz92_2
   try clear hcz92_3
   try clear hcz94_0
   try clear hcz94_1
   try clear hcz94_2
   try clear hcz94_3
   try clear hfz100_0
   try clear hfz100_1
   try clear hfz100_2
   try clear hfz100_3
   try clear hfz103_0
   try clear hfz103_1
   try clear hfz103_2
   try clear hfz103_3
   try clear hfz108_0
   try clear hfz108_1
   try clear hfz108_2
   try clear hfz108_3
   try clear hfz110_0
   try clear hfz110_1
   try clear hfz110_2
   try clear hfz110_3
   try clear hfz116_0
   try clear hfz116_1
   try clear hfz116_2
   try clear hfz116_3
   try clear hfz119_0
   try clear hfz119_1
   try clear hfz119_2
   try clear hfz119_3
   try clear hfz124_0
   try clear hfz124_1
   try clear hfz124_2
   try clear hfz124_3
   try clear hfz126_0
   try clear hfz126_1
   try clear hfz126_2
   try clear hfz126_3
   try clear hfz12_0
   try clear hfz12_1
   try clear hfz12_2
   try clear hfz12_3
   try clear hfz132_0
   try clear hfz132_1
   try clear hfz132_2
   try clear hfz132_3
   try clear hfz137_0
   try clear hfz137_1
   try clear hfz137_2
   try clear hfz137_3
   try clear hfz139_0
   try clear hfz139_1
   try clear hfz139_2
   try clear hfz139_3
   try clear hfz146_0
   try clear hfz146_1
   try clear hfz146_2
   try clear hfz146_3
   try clear hfz156_0
   try clear hfz156_1
   try clear hfz156_2
   try clear hfz156_3
   try clear hfz160_0
   try clear hfz160_1
   try clear hfz160_2
   try clear hfz160_3
   try clear hfz165_0
   try clear hfz165_1
   try clear hfz165_2
   try clear hfz165_3
   try clear hfz169_0
   try clear hfz169_1
   try clear hfz169_2
   try clear hfz169_3
   try clear hfz16_0
   try clear hfz16_1
   try clear hfz16_2
   try clear hfz16_3
   try clear hfz174_0
   try clear hfz174_1
   try clear hfz174_2
   try clear hfz174_3
   try clear hfz178_0
   try clear hfz178_1
   try clear hfz178_2
   try clear hfz178_3
   try clear hfz183_0
   try clear hfz183_1
   try clear hfz183_2
   try clear hfz183_3
   try clear hfz27_0
   try clear hfz27_1
   try clear hfz27_2
   try clear hfz27_3
   try clear hfz35_0
   try clear hfz35_1
   try clear hfz35_2
   try clear hfz35_3
   try clear hfz44_0
   try clear hfz44_1
   try clear hfz44_2
   try clear hfz44_3
   try clear hfz51_0
   try clear hfz51_1
   try clear hfz51_2
   try clear hfz51_3
   try clear hfz58_0
   try clear hfz58_1
   try clear hfz58_2
   try clear hfz58_3
   try clear hfz76_0
   try clear hfz76_1
   try clear hfz76_2
   try clear hfz76_3
   try clear hfz78_0
   try clear hfz78_1
   try clear hfz78_2
   try clear hfz78_3
   try clear hfz84_0
   try clear hfz84_1
   try clear hfz84_2
   try clear hfz84_3
   try clear hfz87_0
   try clear hfz87_1
   try clear hfz87_2
   try clear hfz87_3
   try clear hfz92_0
   try clear hfz92_1
   try clear hfz92_2
   try clear hfz92_3
   try clear hfz94_0
   try clear hfz94_1
   try clear hfz94_2
   try clear hfz94_3
   obtain ⟨kq, x86_59, rfl, HA, HJ59, HO_4, HO_594003, HO_608003, HO_616003, HO_624003, HO_631003, BK593, BK607, BK615, BK623, BK630, HB⟩ := hcut
   cases kq with
   | zero => exact absurd HA.out (by simp [laws_FnFrames.j0])
   | succ kj59 =>
    have H := HA.out
    clear HA
    simp only [laws_FnFrames.j0] at H
    by_cases c184 : x86_59 = true
    ·subst c184
     rw [if_pos rfl] at H
     have HC185 := zA H
     clear H
     go_upto_region 11 with (fail)
     have H := HC185.out
     clear HC185
     exact absurd H zq125
    ·replace c184 := Bool.eq_false_iff.mpr c184
     subst c184
     rw [if_neg zF] at H
     have HC186 := zA H
     clear H
     go_upto_region 12 with (fail)
     have H := HC186.out
     clear HC186
     obtain ⟨t638, A187, H⟩ := zB H
     try dsimp only at H
     by_cases c188 : t638 = true
     ·subst c188
      rw [if_pos rfl] at H
      have HC189 := zA H
      clear H
      have hnb190 := NB593_607.out
      have hnc190 := NB607_593.out
      have hnb191 := NB593_615.out
      have hnc191 := NB615_593.out
      have hnb192 := NB593_623.out
      have hnc192 := NB623_593.out
      have hnb193 := NB593_630.out
      have hnc193 := NB630_593.out
      have hcz194_0 : wc.cell? ⟨gb593, 0, none⟩ = some (.int .i64 t587) := (blk_cell BK593.out 0).trans rfl
      have hcz194_1 : wc.cell? ⟨gb593, 1, none⟩ = some (.int .i64 t588) := (blk_cell BK593.out 1).trans rfl
      have hcz194_2 : wc.cell? ⟨gb593, 2, none⟩ = some (.int .i64 t589) := (blk_cell BK593.out 2).trans rfl
      have hcz194_3 : wc.cell? ⟨gb593, 3, none⟩ = some (.slice Ao13 t590.length co13) := (blk_cell BK593.out 3).trans rfl
      have hfz194_0 := blk_frozen BK593.out 0
      have hfz194_1 := blk_frozen BK593.out 1
      have hfz194_2 := blk_frozen BK593.out 2
      have hfz194_3 := blk_frozen BK593.out 3
      go_upto_region 14 with (first | ((with_reducible refine gate_callee (f := 80) rfl ?_); refine goesL_ (some 88) rfl rfl Try.func80 (by kernel_rfl) rfl #[.agg #[.int .i64 t587, .int .i64 t588, .int .i64 t589, .slice Ao13 t590.length co13]] rfl zq1 ?_; (with_reducible refine (spec_FrameOk.calls t587 t588 t589 _ _ t590 true _ ?side1 ?side2 A187.out).mono ?_); (case side1 => repeat (first | exact (Kd.R_reads' HO_594003.out).2.2 | (with_reducible refine Kd.C_alloc ?_ _) | (with_reducible refine Kd.C_drewN ?_ _) | (with_reducible refine Kd.C_drew ?_))); (case side2 => exact (Kd.R_reads' HO_594003.out).2.1); rintro e w195 ⟨rfl, hb⟩; refine ⟨_, rfl, ?_⟩; replace HO_4 := zA (Kd.R_below zq72 hb); replace HO_594003 := zA (Kd.R_below zq104 hb); replace HO_608003 := zA (Kd.R_below zq105 hb); replace HO_616003 := zA (Kd.R_below zq106 hb); replace HO_624003 := zA (Kd.R_below zq107 hb); replace HO_631003 := zA (Kd.R_below zq108 hb); replace BK593 := zA (blk_below (g := gb593) (o := .cells #[.int .i64 t587, .int .i64 t588, .int .i64 t589, .slice Ao13 t590.length co13] 54 (0, 0)) zq15 hb); replace BK607 := zA (blk_below (g := gb607) (o := .cells #[.int .i64 t600, .int .i64 t601, .int .i64 t602, .slice Ao28 t603.length co28] 54 (0, 0)) zq19 hb); replace BK615 := zA (blk_below (g := gb615) (o := .cells #[.int .i64 t608, .int .i64 t609, .int .i64 t610, .slice Ao36 t611.length co36] 54 (0, 0)) zq23 hb); replace BK623 := zA (blk_below (g := gb623) (o := .cells #[.int .i64 t616, .int .i64 t617, .int .i64 t618, .slice Ao45 t619.length co45] 54 (0, 0)) zq26 hb); replace BK630 := zA (blk_below (g := gb630) (o := .cells #[.int .i64 t624, .int .i64 t625, .int .i64 t626, .slice Ao59 t627.length co59] 54 (0, 0)) zq38 hb); replace HB := zA (below_step zq2 hb); clear hb))
      (try simp only [Act.put, List.setIfInBounds_toArray, List.set_cons_zero, List.set_cons_succ])
      have H := HC189.out
      clear HC189
      obtain ⟨⟨t639, t640, t641, t642, t645⟩, A196, H⟩ := zB H
      try dsimp only at H
      have HC197 := zA H
      clear H
      obtain ⟨Ao198, co198, eo198⟩ := Kd.R_slice HO_4.out
      subst eo198
      go_upto_region 15 with (first | ((with_reducible refine gate_callee (f := 44) rfl ?_); refine goesL_ (some 100) rfl rfl Try.func44 (by kernel_rfl) rfl #[.slice Ao198 t594.length co198] rfl zq1 ?_; (with_reducible refine (impl_GetFrame.calls kj59 _ _ t594 t639 t640 t641 t642 t645 _ ?side1 ?side2 A196.out).mono ?_); (case side1 => repeat (first | exact (Kd.R_reads' HO_4.out).2.2 | (with_reducible refine Kd.C_alloc ?_ _) | (with_reducible refine Kd.C_drewN ?_ _) | (with_reducible refine Kd.C_drew ?_))); (case side2 => exact (Kd.R_reads' HO_4.out).2.1); rintro e w199 ⟨v643, rfl, ho0, hb⟩; refine ⟨_, rfl, ?_⟩; have HO644 := zA (Kd.R_lower (Kd.R_new' (Kd.R_new' (Kd.R_new' (Kd.R_new' (Kd.R_new' (Kd.R_new' ho0 (Kd.R_lt zq72)) (Kd.R_lt zq104)) (Kd.R_lt zq105)) (Kd.R_lt zq106)) (Kd.R_lt zq107)) (Kd.R_lt zq108)) (below_size zq2)); replace HO_4 := zA (Kd.R_elder' zq72 (Kd.R_base ho0) hb); replace HO_594003 := zA (Kd.R_elder' zq104 (Kd.R_base ho0) hb); replace HO_608003 := zA (Kd.R_elder' zq105 (Kd.R_base ho0) hb); replace HO_616003 := zA (Kd.R_elder' zq106 (Kd.R_base ho0) hb); replace HO_624003 := zA (Kd.R_elder' zq107 (Kd.R_base ho0) hb); replace HO_631003 := zA (Kd.R_elder' zq108 (Kd.R_base ho0) hb); replace BK593 := zA (blk_below (g := gb593) (o := .cells #[.int .i64 t587, .int .i64 t588, .int .i64 t589, .slice Ao13 t590.length co13] 54 (0, 0)) zq15 hb); replace BK607 := zA (blk_below (g := gb607) (o := .cells #[.int .i64 t600, .int .i64 t601, .int .i64 t602, .slice Ao28 t603.length co28] 54 (0, 0)) zq19 hb); replace BK615 := zA (blk_below (g := gb615) (o := .cells #[.int .i64 t608, .int .i64 t609, .int .i64 t610, .slice Ao36 t611.length co36] 54 (0, 0)) zq23 hb); replace BK623 := zA (blk_below (g := gb623) (o := .cells #[.int .i64 t616, .int .i64 t617, .int .i64 t618, .slice Ao45 t619.length co45] 54 (0, 0)) zq26 hb); replace BK630 := zA (blk_below (g := gb630) (o := .cells #[.int .i64 t624, .int .i64 t625, .int .i64 t626, .slice Ao59 t627.length co59] 54 (0, 0)) zq38 hb); replace HB := zA (below_step zq2 hb); clear hb ho0) | ((with_reducible refine gate_dst (N := 13) rfl ?_); refine box_event ?hg (N := 13) ?hd (cs := #[.int .i64 0, .int .i64 0, .int .i64 0, .slice none 0 0]) (t := 54) ?hr ?_; (case hd => rfl); (case hg => rfl); (case hr => first | (go_simp; done) | (go_simp; rfl)); intro gb646 hg w200 hbox hb; replace HO_4 := zA (Kd.R_below zq72 hb); replace HO_594003 := zA (Kd.R_below zq104 hb); replace HO_608003 := zA (Kd.R_below zq105 hb); replace HO_616003 := zA (Kd.R_below zq106 hb); replace HO_624003 := zA (Kd.R_below zq107 hb); replace HO_631003 := zA (Kd.R_below zq108 hb); replace HO644 := zA (Kd.R_below zq204 hb); have BK646 := zA (hbox); have GW646 := zA ((zq160 : w.heap.size ≤ gb646)); have GE646 := zA ((zq160 : w.heap.size ≤ gb646)); replace HB := zA (below_step zq2 hb); have NB593_646 := zA ((zq68 : gb593 ≠ gb646)); have NB646_593 := zA ((zq69 : gb646 ≠ gb593)); replace BK593 := zA (blk_below (g := gb593) (o := .cells #[.int .i64 t587, .int .i64 t588, .int .i64 t589, .slice Ao13 t590.length co13] 54 (0, 0)) zq15 hb); have NB607_646 := zA ((zq90 : gb607 ≠ gb646)); have NB646_607 := zA ((zq91 : gb646 ≠ gb607)); replace BK607 := zA (blk_below (g := gb607) (o := .cells #[.int .i64 t600, .int .i64 t601, .int .i64 t602, .slice Ao28 t603.length co28] 54 (0, 0)) zq19 hb); have NB615_646 := zA ((zq117 : gb615 ≠ gb646)); have NB646_615 := zA ((zq118 : gb646 ≠ gb615)); replace BK615 := zA (blk_below (g := gb615) (o := .cells #[.int .i64 t608, .int .i64 t609, .int .i64 t610, .slice Ao36 t611.length co36] 54 (0, 0)) zq23 hb); have NB623_646 := zA ((zq167 : gb623 ≠ gb646)); have NB646_623 := zA ((zq168 : gb646 ≠ gb623)); replace BK623 := zA (blk_below (g := gb623) (o := .cells #[.int .i64 t616, .int .i64 t617, .int .i64 t618, .slice Ao45 t619.length co45] 54 (0, 0)) zq26 hb); have NB630_646 := zA ((by rw [hg]; exact Nat.ne_of_lt (blk_lt (g := gb630) (o := .cells #[.int .i64 t624, .int .i64 t625, .int .i64 t626, .slice Ao59 t627.length co59] 54 (0, 0)) zq38) : gb630 ≠ gb646)); have NB646_630 := zA ((by rw [hg]; exact Nat.ne_of_gt (blk_lt (g := gb630) (o := .cells #[.int .i64 t624, .int .i64 t625, .int .i64 t626, .slice Ao59 t627.length co59] 54 (0, 0)) zq38) : gb646 ≠ gb630)); replace BK630 := zA (blk_below (g := gb630) (o := .cells #[.int .i64 t624, .int .i64 t625, .int .i64 t626, .slice Ao59 t627.length co59] 54 (0, 0)) zq38 hb); clear hb hbox hg; have hnb201 := NB646_593.out; have hnc201 := NB593_646.out; have hnb202 := NB646_607.out; have hnc202 := NB607_646.out; have hnb203 := NB646_615.out; have hnc203 := NB615_646.out; have hnb204 := NB646_623.out; have hnc204 := NB623_646.out; have hnb205 := NB646_630.out; have hnc205 := NB630_646.out; have hcz206_0 : w200.cell? ⟨gb646, 0, none⟩ = some (.int .i64 0) := (blk_cell BK646.out 0).trans rfl; have hcz206_1 : w200.cell? ⟨gb646, 1, none⟩ = some (.int .i64 0) := (blk_cell BK646.out 1).trans rfl; have hcz206_2 : w200.cell? ⟨gb646, 2, none⟩ = some (.int .i64 0) := (blk_cell BK646.out 2).trans rfl; have hcz206_3 : w200.cell? ⟨gb646, 3, none⟩ = some (.slice none 0 0) := (blk_cell BK646.out 3).trans rfl; have hfz206_0 := blk_frozen BK646.out 0; have hfz206_1 := blk_frozen BK646.out 1; have hfz206_2 := blk_frozen BK646.out 2; have hfz206_3 := blk_frozen BK646.out 3; obtain ⟨Ao207, co207, eo207⟩ := Kd.R_slice HO644.out; subst eo207))
      (try simp only [Act.put, List.setIfInBounds_toArray, List.set_cons_zero, List.set_cons_succ])
      have H := HC197.out
      clear HC197
      by_cases c208 : t645 = true
      ·subst c208
       rw [if_pos rfl] at H
       obtain ⟨t647, A209, H⟩ := zB H
       try dsimp only at H
       by_cases c210 : t647 = true
       ·subst c210
        rw [if_pos rfl] at H
        obtain ⟨t648, A211, H⟩ := zB H
        try dsimp only at H
        by_cases c212 : t648 = true
        ·subst c212
         rw [if_pos rfl] at H
         obtain rfl := Option.some.inj H
         have hnb213 := NB646_593.out
         have hnc213 := NB593_646.out
         have hnb214 := NB646_607.out
         have hnc214 := NB607_646.out
         have hnb215 := NB646_615.out
         have hnc215 := NB615_646.out
         have hnb216 := NB646_623.out
         have hnc216 := NB623_646.out
         have hnb217 := NB646_630.out
         have hnc217 := NB630_646.out
         have hcz218_0 : w200.cell? ⟨gb646, 0, none⟩ = some (.int .i64 0) := (blk_cell BK646.out 0).trans rfl
         have hcz218_1 : w200.cell? ⟨gb646, 1, none⟩ = some (.int .i64 0) := (blk_cell BK646.out 1).trans rfl
         have hcz218_2 : w200.cell? ⟨gb646, 2, none⟩ = some (.int .i64 0) := (blk_cell BK646.out 2).trans rfl
         have hcz218_3 : w200.cell? ⟨gb646, 3, none⟩ = some (.slice none 0 0) := (blk_cell BK646.out 3).trans rfl
         have hfz218_0 := blk_frozen BK646.out 0
         have hfz218_1 := blk_frozen BK646.out 1
         have hfz218_2 := blk_frozen BK646.out 2
         have hfz218_3 := blk_frozen BK646.out 3
         have hnb219 := NB593_607.out
         have hnc219 := NB607_593.out
         have hnb220 := NB593_615.out
         have hnc220 := NB615_593.out
         have hnb221 := NB593_623.out
         have hnc221 := NB623_593.out
         have hnb222 := NB593_630.out
         have hnc222 := NB630_593.out
         have hcz223_0 : w200.cell? ⟨gb593, 0, none⟩ = some (.int .i64 t587) := (blk_cell BK593.out 0).trans rfl
         have hcz223_1 : w200.cell? ⟨gb593, 1, none⟩ = some (.int .i64 t588) := (blk_cell BK593.out 1).trans rfl
         have hcz223_2 : w200.cell? ⟨gb593, 2, none⟩ = some (.int .i64 t589) := (blk_cell BK593.out 2).trans rfl
         have hcz223_3 : w200.cell? ⟨gb593, 3, none⟩ = some (.slice Ao13 t590.length co13) := (blk_cell BK593.out 3).trans rfl
         have hfz223_0 := blk_frozen BK593.out 0
         have hfz223_1 := blk_frozen BK593.out 1
         have hfz223_2 := blk_frozen BK593.out 2
         have hfz223_3 := blk_frozen BK593.out 3
         go_wp2_with (first | (go_at_call 81; (with_reducible refine (impl_SameFrame.calls t639 t640 t641 _ _ t642 t587 t588 t589 _ _ t590 true _ ?side1 ?side2 ?side3 ?side4 A209.out).mono ?_); (case side1 => refine (Kd.R_reads' (e := 5) (base := w.heap.size) (ok := fun k_ => ((((((True ∧ some k_ ≠ (.slice Ao198 t594.length co198 : Value).ownBlock) ∧ some k_ ≠ (.slice Ao13 t590.length co13 : Value).ownBlock) ∧ some k_ ≠ (.slice Ao28 t603.length co28 : Value).ownBlock) ∧ some k_ ≠ (.slice Ao36 t611.length co36 : Value).ownBlock) ∧ some k_ ≠ (.slice Ao45 t619.length co45 : Value).ownBlock) ∧ some k_ ≠ (.slice Ao59 t627.length co59 : Value).ownBlock)) (n := t642.length) (c := co207) ?_).2.2; exact zq131); (case side2 => exact (Kd.R_reads' HO644.out).2.1); (case side3 => refine (Kd.R_reads' (e := 5) (base := w.heap.size) (ok := fun k_ => ((some k_ ≠ (.slice Ao198 t594.length co198 : Value).ownBlock ∧ (some k_ ≠ (.slice Ao28 t603.length co28 : Value).ownBlock ∧ (some k_ ≠ (.slice Ao36 t611.length co36 : Value).ownBlock ∧ (some k_ ≠ (.slice Ao45 t619.length co45 : Value).ownBlock ∧ some k_ ≠ (.slice Ao59 t627.length co59 : Value).ownBlock)))) ∧ some k_ ≠ (.slice Ao207 t642.length co207 : Value).ownBlock)) (n := t590.length) (c := co13) ?_).2.2; exact zq130); (case side4 => exact (Kd.R_reads' HO_594003.out).2.1); rintro e w224 ⟨rfl, hb⟩; replace HO_4 := zA (Kd.R_below (by (with_reducible repeat (first | apply Kd.R_alloc | apply Kd.R_drewN | apply Kd.R_drew)); exact (Kd.R_mono (Kd.R_far (p := ⟨gb646, 3, none⟩) (Kd.R_far (p := ⟨gb646, 2, none⟩) (Kd.R_far (p := ⟨gb646, 1, none⟩) (Kd.R_far (p := ⟨gb646, 0, none⟩) (Kd.R_types HO_4.out BK646.out zq40) (fun _ hk => hk.2) (.int .i64 t639)) (fun _ hk => hk.2) (.int .i64 t640)) (fun _ hk => hk.2) (.int .i64 t641)) (fun _ hk => hk.2) (.slice Ao207 t642.length co207)) (fun _ h_ => h_.1))) hb); replace HO_594003 := zA (Kd.R_below zq130 hb); replace HO_608003 := zA (Kd.R_below (by (with_reducible repeat (first | apply Kd.R_alloc | apply Kd.R_drewN | apply Kd.R_drew)); exact (Kd.R_mono (Kd.R_far (p := ⟨gb646, 3, none⟩) (Kd.R_far (p := ⟨gb646, 2, none⟩) (Kd.R_far (p := ⟨gb646, 1, none⟩) (Kd.R_far (p := ⟨gb646, 0, none⟩) (Kd.R_types HO_608003.out BK646.out zq40) (fun _ hk => hk.2) (.int .i64 t639)) (fun _ hk => hk.2) (.int .i64 t640)) (fun _ hk => hk.2) (.int .i64 t641)) (fun _ hk => hk.2) (.slice Ao207 t642.length co207)) (fun _ h_ => h_.1))) hb); replace HO_616003 := zA (Kd.R_below (by (with_reducible repeat (first | apply Kd.R_alloc | apply Kd.R_drewN | apply Kd.R_drew)); exact (Kd.R_mono (Kd.R_far (p := ⟨gb646, 3, none⟩) (Kd.R_far (p := ⟨gb646, 2, none⟩) (Kd.R_far (p := ⟨gb646, 1, none⟩) (Kd.R_far (p := ⟨gb646, 0, none⟩) (Kd.R_types HO_616003.out BK646.out zq40) (fun _ hk => hk.2) (.int .i64 t639)) (fun _ hk => hk.2) (.int .i64 t640)) (fun _ hk => hk.2) (.int .i64 t641)) (fun _ hk => hk.2) (.slice Ao207 t642.length co207)) (fun _ h_ => h_.1))) hb); replace HO_624003 := zA (Kd.R_below (by (with_reducible repeat (first | apply Kd.R_alloc | apply Kd.R_drewN | apply Kd.R_drew)); exact (Kd.R_mono (Kd.R_far (p := ⟨gb646, 3, none⟩) (Kd.R_far (p := ⟨gb646, 2, none⟩) (Kd.R_far (p := ⟨gb646, 1, none⟩) (Kd.R_far (p := ⟨gb646, 0, none⟩) (Kd.R_types HO_624003.out BK646.out zq40) (fun _ hk => hk.2) (.int .i64 t639)) (fun _ hk => hk.2) (.int .i64 t640)) (fun _ hk => hk.2) (.int .i64 t641)) (fun _ hk => hk.2) (.slice Ao207 t642.length co207)) (fun _ h_ => h_.1))) hb); replace HO_631003 := zA (Kd.R_below (by (with_reducible repeat (first | apply Kd.R_alloc | apply Kd.R_drewN | apply Kd.R_drew)); exact (Kd.R_mono (Kd.R_far (p := ⟨gb646, 3, none⟩) (Kd.R_far (p := ⟨gb646, 2, none⟩) (Kd.R_far (p := ⟨gb646, 1, none⟩) (Kd.R_far (p := ⟨gb646, 0, none⟩) (Kd.R_types HO_631003.out BK646.out zq40) (fun _ hk => hk.2) (.int .i64 t639)) (fun _ hk => hk.2) (.int .i64 t640)) (fun _ hk => hk.2) (.int .i64 t641)) (fun _ hk => hk.2) (.slice Ao207 t642.length co207)) (fun _ h_ => h_.1))) hb); replace HO644 := zA (Kd.R_below zq131 hb); replace BK593 := zA (blk_below (g := gb593) (o := .cells #[.int .i64 t587, .int .i64 t588, .int .i64 t589, .slice Ao13 t590.length co13] 54 (0, 0)) (by (with_reducible repeat (first | refine blk_drewN ?_ _ | refine blk_drew ?_ | refine blk_alloc ?_ _)); refine blk_far ?_ NB593_646.out _; (with_reducible repeat (first | refine blk_drewN ?_ _ | refine blk_drew ?_ | refine blk_alloc ?_ _)); refine blk_far ?_ NB593_646.out _; (with_reducible repeat (first | refine blk_drewN ?_ _ | refine blk_drew ?_ | refine blk_alloc ?_ _)); refine blk_far ?_ NB593_646.out _; (with_reducible repeat (first | refine blk_drewN ?_ _ | refine blk_drew ?_ | refine blk_alloc ?_ _)); refine blk_far ?_ NB593_646.out _; (with_reducible repeat (first | refine blk_drewN ?_ _ | refine blk_drew ?_ | refine blk_alloc ?_ _)); exact BK593.out) hb); replace BK607 := zA (blk_below (g := gb607) (o := .cells #[.int .i64 t600, .int .i64 t601, .int .i64 t602, .slice Ao28 t603.length co28] 54 (0, 0)) (by (with_reducible repeat (first | refine blk_drewN ?_ _ | refine blk_drew ?_ | refine blk_alloc ?_ _)); refine blk_far ?_ NB607_646.out _; (with_reducible repeat (first | refine blk_drewN ?_ _ | refine blk_drew ?_ | refine blk_alloc ?_ _)); refine blk_far ?_ NB607_646.out _; (with_reducible repeat (first | refine blk_drewN ?_ _ | refine blk_drew ?_ | refine blk_alloc ?_ _)); refine blk_far ?_ NB607_646.out _; (with_reducible repeat (first | refine blk_drewN ?_ _ | refine blk_drew ?_ | refine blk_alloc ?_ _)); refine blk_far ?_ NB607_646.out _; (with_reducible repeat (first | refine blk_drewN ?_ _ | refine blk_drew ?_ | refine blk_alloc ?_ _)); exact BK607.out) hb); replace BK615 := zA (blk_below (g := gb615) (o := .cells #[.int .i64 t608, .int .i64 t609, .int .i64 t610, .slice Ao36 t611.length co36] 54 (0, 0)) (by (with_reducible repeat (first | refine blk_drewN ?_ _ | refine blk_drew ?_ | refine blk_alloc ?_ _)); refine blk_far ?_ NB615_646.out _; (with_reducible repeat (first | refine blk_drewN ?_ _ | refine blk_drew ?_ | refine blk_alloc ?_ _)); refine blk_far ?_ NB615_646.out _; (with_reducible repeat (first | refine blk_drewN ?_ _ | refine blk_drew ?_ | refine blk_alloc ?_ _)); refine blk_far ?_ NB615_646.out _; (with_reducible repeat (first | refine blk_drewN ?_ _ | refine blk_drew ?_ | refine blk_alloc ?_ _)); refine blk_far ?_ NB615_646.out _; (with_reducible repeat (first | refine blk_drewN ?_ _ | refine blk_drew ?_ | refine blk_alloc ?_ _)); exact BK615.out) hb); replace BK623 := zA (blk_below (g := gb623) (o := .cells #[.int .i64 t616, .int .i64 t617, .int .i64 t618, .slice Ao45 t619.length co45] 54 (0, 0)) (by (with_reducible repeat (first | refine blk_drewN ?_ _ | refine blk_drew ?_ | refine blk_alloc ?_ _)); refine blk_far ?_ NB623_646.out _; (with_reducible repeat (first | refine blk_drewN ?_ _ | refine blk_drew ?_ | refine blk_alloc ?_ _)); refine blk_far ?_ NB623_646.out _; (with_reducible repeat (first | refine blk_drewN ?_ _ | refine blk_drew ?_ | refine blk_alloc ?_ _)); refine blk_far ?_ NB623_646.out _; (with_reducible repeat (first | refine blk_drewN ?_ _ | refine blk_drew ?_ | refine blk_alloc ?_ _)); refine blk_far ?_ NB623_646.out _; (with_reducible repeat (first | refine blk_drewN ?_ _ | refine blk_drew ?_ | refine blk_alloc ?_ _)); exact BK623.out) hb); replace BK630 := zA (blk_below (g := gb630) (o := .cells #[.int .i64 t624, .int .i64 t625, .int .i64 t626, .slice Ao59 t627.length co59] 54 (0, 0)) (by (with_reducible repeat (first | refine blk_drewN ?_ _ | refine blk_drew ?_ | refine blk_alloc ?_ _)); refine blk_far ?_ NB630_646.out _; (with_reducible repeat (first | refine blk_drewN ?_ _ | refine blk_drew ?_ | refine blk_alloc ?_ _)); refine blk_far ?_ NB630_646.out _; (with_reducible repeat (first | refine blk_drewN ?_ _ | refine blk_drew ?_ | refine blk_alloc ?_ _)); refine blk_far ?_ NB630_646.out _; (with_reducible repeat (first | refine blk_drewN ?_ _ | refine blk_drew ?_ | refine blk_alloc ?_ _)); refine blk_far ?_ NB630_646.out _; (with_reducible repeat (first | refine blk_drewN ?_ _ | refine blk_drew ?_ | refine blk_alloc ?_ _)); exact BK630.out) hb); replace BK646 := zA (blk_below (g := gb646) (o := .cells #[.int .i64 t639, .int .i64 t640, .int .i64 t641, .slice Ao207 t642.length co207] 54 (0, 0)) (by (with_reducible repeat (first | refine blk_drewN ?_ _ | refine blk_drew ?_ | refine blk_alloc ?_ _)); refine blk_put (cs := #[.int .i64 t639, .int .i64 t640, .int .i64 t641, .slice none 0 0]) ?_ 3 _ rfl; (with_reducible repeat (first | refine blk_drewN ?_ _ | refine blk_drew ?_ | refine blk_alloc ?_ _)); refine blk_put (cs := #[.int .i64 t639, .int .i64 t640, .int .i64 0, .slice none 0 0]) ?_ 2 _ rfl; (with_reducible repeat (first | refine blk_drewN ?_ _ | refine blk_drew ?_ | refine blk_alloc ?_ _)); refine blk_put (cs := #[.int .i64 t639, .int .i64 0, .int .i64 0, .slice none 0 0]) ?_ 1 _ rfl; (with_reducible repeat (first | refine blk_drewN ?_ _ | refine blk_drew ?_ | refine blk_alloc ?_ _)); refine blk_put (cs := #[.int .i64 0, .int .i64 0, .int .i64 0, .slice none 0 0]) ?_ 0 _ rfl; (with_reducible repeat (first | refine blk_drewN ?_ _ | refine blk_drew ?_ | refine blk_alloc ?_ _)); exact BK646.out) hb); replace HB := zA (below_step zq109 hb); clear hb; have hcz225_0 : w224.cell? ⟨gb593, 0, none⟩ = some (.int .i64 t587) := (blk_cell BK593.out 0).trans rfl; have hcz225_1 : w224.cell? ⟨gb593, 1, none⟩ = some (.int .i64 t588) := (blk_cell BK593.out 1).trans rfl; have hcz225_2 : w224.cell? ⟨gb593, 2, none⟩ = some (.int .i64 t589) := (blk_cell BK593.out 2).trans rfl; have hcz225_3 : w224.cell? ⟨gb593, 3, none⟩ = some (.slice Ao13 t590.length co13) := (blk_cell BK593.out 3).trans rfl; have hfz225_0 := blk_frozen BK593.out 0; have hfz225_1 := blk_frozen BK593.out 1; have hfz225_2 := blk_frozen BK593.out 2; have hfz225_3 := blk_frozen BK593.out 3) | (go_at_call 79; (with_reducible refine (impl_FrameOk.calls t587 t588 t589 _ _ t590 true _ ?side1 ?side2 A211.out).mono ?_); (case side1 => repeat (first | exact (Kd.R_reads' HO_594003.out).2.2 | (with_reducible refine Kd.C_alloc ?_ _) | (with_reducible refine Kd.C_drewN ?_ _) | (with_reducible refine Kd.C_drew ?_))); (case side2 => exact (Kd.R_reads' HO_594003.out).2.1); rintro e w226 ⟨rfl, hb⟩; replace HO_4 := zA (Kd.R_below zq72 hb); replace HO_594003 := zA (Kd.R_below zq104 hb); replace HO_608003 := zA (Kd.R_below zq105 hb); replace HO_616003 := zA (Kd.R_below zq106 hb); replace HO_624003 := zA (Kd.R_below zq107 hb); replace HO_631003 := zA (Kd.R_below zq108 hb); replace HO644 := zA (Kd.R_below zq204 hb); replace BK593 := zA (blk_below (g := gb593) (o := .cells #[.int .i64 t587, .int .i64 t588, .int .i64 t589, .slice Ao13 t590.length co13] 54 (0, 0)) zq15 hb); replace BK607 := zA (blk_below (g := gb607) (o := .cells #[.int .i64 t600, .int .i64 t601, .int .i64 t602, .slice Ao28 t603.length co28] 54 (0, 0)) zq19 hb); replace BK615 := zA (blk_below (g := gb615) (o := .cells #[.int .i64 t608, .int .i64 t609, .int .i64 t610, .slice Ao36 t611.length co36] 54 (0, 0)) zq23 hb); replace BK623 := zA (blk_below (g := gb623) (o := .cells #[.int .i64 t616, .int .i64 t617, .int .i64 t618, .slice Ao45 t619.length co45] 54 (0, 0)) zq26 hb); replace BK630 := zA (blk_below (g := gb630) (o := .cells #[.int .i64 t624, .int .i64 t625, .int .i64 t626, .slice Ao59 t627.length co59] 54 (0, 0)) zq38 hb); replace BK646 := zA (blk_below (g := gb646) (o := .cells #[.int .i64 t639, .int .i64 t640, .int .i64 t641, .slice Ao207 t642.length co207] 54 (0, 0)) (by (with_reducible repeat (first | refine blk_drewN ?_ _ | refine blk_drew ?_ | refine blk_alloc ?_ _)); exact BK646.out) hb); replace HB := zA (below_step zq109 hb); clear hb))
         go_ret
         exact ⟨zq5, zq109⟩
        ·replace c212 := Bool.eq_false_iff.mpr c212
         subst c212
         rw [if_neg zF] at H
         exact absurd H zq125
       ·replace c210 := Bool.eq_false_iff.mpr c210
        subst c210
        rw [if_neg zF] at H
        exact absurd H zq125
      ·replace c208 := Bool.eq_false_iff.mpr c208
       subst c208
       rw [if_neg zF] at H
       exact absurd H zq125
     ·replace c188 := Bool.eq_false_iff.mpr c188
      subst c188
      rw [if_neg zF] at H
      have HC227 := zA H
      clear H
      have hnb228 := NB593_607.out
      have hnc228 := NB607_593.out
      have hnb229 := NB593_615.out
      have hnc229 := NB615_593.out
      have hnb230 := NB593_623.out
      have hnc230 := NB623_593.out
      have hnb231 := NB593_630.out
      have hnc231 := NB630_593.out
      have hcz232_0 : wc.cell? ⟨gb593, 0, none⟩ = some (.int .i64 t587) := (blk_cell BK593.out 0).trans rfl
      have hcz232_1 : wc.cell? ⟨gb593, 1, none⟩ = some (.int .i64 t588) := (blk_cell BK593.out 1).trans rfl
      have hcz232_2 : wc.cell? ⟨gb593, 2, none⟩ = some (.int .i64 t589) := (blk_cell BK593.out 2).trans rfl
      have hcz232_3 : wc.cell? ⟨gb593, 3, none⟩ = some (.slice Ao13 t590.length co13) := (blk_cell BK593.out 3).trans rfl
      have hfz232_0 := blk_frozen BK593.out 0
      have hfz232_1 := blk_frozen BK593.out 1
      have hfz232_2 := blk_frozen BK593.out 2
      have hfz232_3 := blk_frozen BK593.out 3
      go_upto_region 13 with (first | ((with_reducible refine gate_callee (f := 80) rfl ?_); refine goesL_ (some 88) rfl rfl Try.func80 (by kernel_rfl) rfl #[.agg #[.int .i64 t587, .int .i64 t588, .int .i64 t589, .slice Ao13 t590.length co13]] rfl zq1 ?_; (with_reducible refine (spec_FrameOk.calls t587 t588 t589 _ _ t590 false _ ?side1 ?side2 A187.out).mono ?_); (case side1 => repeat (first | exact (Kd.R_reads' HO_594003.out).2.2 | (with_reducible refine Kd.C_alloc ?_ _) | (with_reducible refine Kd.C_drewN ?_ _) | (with_reducible refine Kd.C_drew ?_))); (case side2 => exact (Kd.R_reads' HO_594003.out).2.1); rintro e w233 ⟨rfl, hb⟩; refine ⟨_, rfl, ?_⟩; replace HO_4 := zA (Kd.R_below zq72 hb); replace HO_594003 := zA (Kd.R_below zq104 hb); replace HO_608003 := zA (Kd.R_below zq105 hb); replace HO_616003 := zA (Kd.R_below zq106 hb); replace HO_624003 := zA (Kd.R_below zq107 hb); replace HO_631003 := zA (Kd.R_below zq108 hb); replace BK593 := zA (blk_below (g := gb593) (o := .cells #[.int .i64 t587, .int .i64 t588, .int .i64 t589, .slice Ao13 t590.length co13] 54 (0, 0)) zq15 hb); replace BK607 := zA (blk_below (g := gb607) (o := .cells #[.int .i64 t600, .int .i64 t601, .int .i64 t602, .slice Ao28 t603.length co28] 54 (0, 0)) zq19 hb); replace BK615 := zA (blk_below (g := gb615) (o := .cells #[.int .i64 t608, .int .i64 t609, .int .i64 t610, .slice Ao36 t611.length co36] 54 (0, 0)) zq23 hb); replace BK623 := zA (blk_below (g := gb623) (o := .cells #[.int .i64 t616, .int .i64 t617, .int .i64 t618, .slice Ao45 t619.length co45] 54 (0, 0)) zq26 hb); replace BK630 := zA (blk_below (g := gb630) (o := .cells #[.int .i64 t624, .int .i64 t625, .int .i64 t626, .slice Ao59 t627.length co59] 54 (0, 0)) zq38 hb); replace HB := zA (below_step zq2 hb); clear hb))
      (try simp only [Act.put, List.setIfInBounds_toArray, List.set_cons_zero, List.set_cons_succ])
      have H := HC227.out
      clear HC227
      obtain ⟨c234, H⟩ := zN H
      have c234b0 : ((t594.length : Int) == 0) = true := beq_iff_eq.mpr c234
      have c234b1 : ((t594.length : Int) != 0) = false := bne_eq_false_iff_eq.mpr c234
      clear c234
      obtain ⟨t649, A235, H⟩ := zB H
      try dsimp only at H
      obtain rfl := Option.some.inj H
      obtain ⟨Ao236, co236, eo236⟩ := Kd.R_slice HO_4.out
      subst eo236
      have hnb237 := NB593_607.out
      have hnc237 := NB607_593.out
      have hnb238 := NB593_615.out
      have hnc238 := NB615_593.out
      have hnb239 := NB593_623.out
      have hnc239 := NB623_593.out
      have hnb240 := NB593_630.out
      have hnc240 := NB630_593.out
      have hcz241_0 : w233.cell? ⟨gb593, 0, none⟩ = some (.int .i64 t587) := (blk_cell BK593.out 0).trans rfl
      have hcz241_1 : w233.cell? ⟨gb593, 1, none⟩ = some (.int .i64 t588) := (blk_cell BK593.out 1).trans rfl
      have hcz241_2 : w233.cell? ⟨gb593, 2, none⟩ = some (.int .i64 t589) := (blk_cell BK593.out 2).trans rfl
      have hcz241_3 : w233.cell? ⟨gb593, 3, none⟩ = some (.slice Ao13 t590.length co13) := (blk_cell BK593.out 3).trans rfl
      have hfz241_0 := blk_frozen BK593.out 0
      have hfz241_1 := blk_frozen BK593.out 1
      have hfz241_2 := blk_frozen BK593.out 2
      have hfz241_3 := blk_frozen BK593.out 3
      go_wp2_with (first | (go_at_call 79; (with_reducible refine (impl_FrameOk.calls t587 t588 t589 _ _ t590 t649 _ ?side1 ?side2 A235.out).mono ?_); (case side1 => repeat (first | exact (Kd.R_reads' HO_594003.out).2.2 | (with_reducible refine Kd.C_alloc ?_ _) | (with_reducible refine Kd.C_drewN ?_ _) | (with_reducible refine Kd.C_drew ?_))); (case side2 => exact (Kd.R_reads' HO_594003.out).2.1); rintro e w242 ⟨rfl, hb⟩; replace HO_4 := zA (Kd.R_below zq72 hb); replace HO_594003 := zA (Kd.R_below zq104 hb); replace HO_608003 := zA (Kd.R_below zq105 hb); replace HO_616003 := zA (Kd.R_below zq106 hb); replace HO_624003 := zA (Kd.R_below zq107 hb); replace HO_631003 := zA (Kd.R_below zq108 hb); replace BK593 := zA (blk_below (g := gb593) (o := .cells #[.int .i64 t587, .int .i64 t588, .int .i64 t589, .slice Ao13 t590.length co13] 54 (0, 0)) zq15 hb); replace BK607 := zA (blk_below (g := gb607) (o := .cells #[.int .i64 t600, .int .i64 t601, .int .i64 t602, .slice Ao28 t603.length co28] 54 (0, 0)) zq19 hb); replace BK615 := zA (blk_below (g := gb615) (o := .cells #[.int .i64 t608, .int .i64 t609, .int .i64 t610, .slice Ao36 t611.length co36] 54 (0, 0)) zq23 hb); replace BK623 := zA (blk_below (g := gb623) (o := .cells #[.int .i64 t616, .int .i64 t617, .int .i64 t618, .slice Ao45 t619.length co45] 54 (0, 0)) zq26 hb); replace BK630 := zA (blk_below (g := gb630) (o := .cells #[.int .i64 t624, .int .i64 t625, .int .i64 t626, .slice Ao59 t627.length co59] 54 (0, 0)) zq38 hb); replace HB := zA (below_step zq2 hb); clear hb))
      go_ret
      exact ⟨zq5, zq2⟩

/-- THE ONE PURE STATEMENT of laws_FnFrames: yours. -/
def laws_FnFrames.Pure : Prop := ∀ (l0 : List Int), l0.length ≤ maxLen → l0.length * 1 ≤ 140737488351232 → (∀ x ∈ l0, (Lit.int .u8 x).wf = true) → ∃ k, laws_FnFrames.f k l0 = some true
theorem laws_FnFrames.walk (P : laws_FnFrames.Pure) (a0 : Option Addr) (len0 cap0 : Nat) (z0 : List Int) (w : World) (w0 : (a0 = none ∧ len0 = 0 ∧ cap0 = 0 ∧ z0 = []) ∨ ∃ x, a0 = some x ∧ len0 ≤ cap0 ∧ cap0 ≤ maxLen ∧ z0.length = cap0 ∧ (∀ i, i < z0.length → w.cell? (x.add i) = some (.int .u8 (z0.getD i 0))) ∧ ∀ n ∈ z0, (Lit.int .u8 n).wf = true) (y0 : len0 * 1 ≤ 140737488351232) :
  Calls Try.prog 10 #[.slice a0 len0 cap0] w fun e w' => e = .returned (.bool true) ∧ Below w.heap.size w w' := by
 obtain ⟨l0, rfl, hr0, hm0, hw0, hc0⟩ := ReadsInt.ofRowC w0
 obtain ⟨k, h⟩ := P l0 hm0 y0 hw0
 refine (laws_FnFrames.calls k _ _ l0 true w (Kd.C_of_reads (d := (0 : Int)) (h1 := fun _ => rfl) hr0) hc0 h).mono ?_
 rintro e w' ⟨rfl, hd⟩
 exact ⟨rfl, hd⟩

end Go.Proofs.Ytkcgghgkmgbphaa.PFnFrames
