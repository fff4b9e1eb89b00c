-- WRITTEN BY a turned copy of the kit's printer (wip/patch_print.py), for this claim
import Derived.Test.YtkcgghgkmgbphaaPFnValsx0
import Derived.Test.YtkcgghgkmgbphaaPFnValsx4
import Derived.Test.YtkcgghgkmgbphaaPFnValsx7
import Derived.Test.YtkcgghgkmgbphaaPFnValsx12
import Derived.Test.YtkcgghgkmgbphaaPFnValsx13
namespace Go.Proofs.Ytkcgghgkmgbphaa.PFnVals
open Go.RowKit Go.Proofs.YtkcgghgkmgbphaaW.PrintWords Go.Proofs.YtkcgghgkmgbphaaW.PrintLast Go.Proofs.YtkcgghgkmgbphaaW.PrintMore
attribute [local go_sem] max2_int min2_int max_two min_two max_three min_three max_four min_four   -- for this text's walks alone
set_option linter.unusedVariables false
set_option linter.unusedSimpArgs false

attribute [local go_sem] cell_setCell_m
/-! ### spec_GetVal: function 89 -/
def spec_GetVal.f (k : Nat) (l0 : List Int) (a1 : Int) : Option (Int × Int × ByteArray × List Int × Int × Bool) := (spec_GetTlv.f l0 a1).bind fun bt651 => (if bt651.1 = 2 then ((spec_GetInt.f k bt651.2.1).bind fun bt658 => (if bt651.2.2.2 = true then (if bt658.2 = true then ((spec_ValOk.f k bt651.1 bt658.1 (⟨#[]⟩ : ByteArray) ([] : List Int)).bind fun t660 => (if t660 = true then (some (bt651.1, bt658.1, (⟨#[]⟩ : ByteArray), ([] : List Int), bt651.2.2.1, true)) else (some (0, 0, (⟨#[]⟩ : ByteArray), ([] : List Int), 0, false)))) else (some (0, 0, (⟨#[]⟩ : ByteArray), ([] : List Int), 0, false))) else (some (0, 0, (⟨#[]⟩ : ByteArray), ([] : List Int), 0, false)))) else (if bt651.1 = 4 then (if bt651.2.2.2 = true then ((spec_ValOk.f k bt651.1 0 (strOfNums bt651.2.1) ([] : List Int)).bind fun t661 => (if t661 = true then (some (bt651.1, 0, strOfNums bt651.2.1, ([] : List Int), bt651.2.2.1, true)) else (some (0, 0, (⟨#[]⟩ : ByteArray), ([] : List Int), 0, false)))) else (some (0, 0, (⟨#[]⟩ : ByteArray), ([] : List Int), 0, false))) else (if bt651.1 = 6 then ((spec_GetOid.f k bt651.2.1).bind fun bt662 => (if bt651.2.2.2 = true then (if bt662.2 = true then ((spec_ValOk.f k bt651.1 0 (⟨#[]⟩ : ByteArray) bt662.1).bind fun t666 => (if t666 = true then (some (bt651.1, 0, (⟨#[]⟩ : ByteArray), bt662.1, bt651.2.2.1, true)) else (some (0, 0, (⟨#[]⟩ : ByteArray), ([] : List Int), 0, false)))) else (some (0, 0, (⟨#[]⟩ : ByteArray), ([] : List Int), 0, false))) else (some (0, 0, (⟨#[]⟩ : ByteArray), ([] : List Int), 0, false)))) else (if bt651.2.2.2 = true then (if ((bt651.2.1.length : Int) = 0) then ((spec_ValOk.f k bt651.1 0 (⟨#[]⟩ : ByteArray) ([] : List Int)).bind fun t667 => (if t667 = true then (some (bt651.1, 0, (⟨#[]⟩ : ByteArray), ([] : List Int), bt651.2.2.1, true)) else (some (0, 0, (⟨#[]⟩ : ByteArray), ([] : List Int), 0, false)))) else (some (0, 0, (⟨#[]⟩ : ByteArray), ([] : List Int), 0, false))) else (some (0, 0, (⟨#[]⟩ : ByteArray), ([] : List Int), 0, false))))))
theorem spec_GetVal.mono : ∀ a0 a1 k, LeO (spec_GetVal.f k a0 a1) (spec_GetVal.f (k + 1) a0 a1) := by
 intro a0 a1 k
 unfold spec_GetVal.f
 have m0_ := @spec_GetInt.mono
 have m1_ := @spec_GetOid.mono
 have m2_ := @spec_ValOk.mono
 exact zR
set_option maxHeartbeats 8000000 in
set_option maxRecDepth 100000 in
theorem spec_GetVal.calls (k : Nat) (A0 : Option Addr) (c0 : Nat) (l0 : List Int) (a1 : Int) (r1 : Int) (r2 : Int) (r3 : ByteArray) (r4 : List Int) (r5 : Int) (r6 : Bool) (w : World) (hr0 : Kd.C (Kd.int .u8) w A0 l0.length l0) (hc0 : l0.length ≤ c0) (h : spec_GetVal.f k l0 a1 = some (r1, r2, r3, r4, r5, r6)) :
  Calls Try.prog 89 #[.slice A0 l0.length c0, .int .i64 a1] w fun e w' => ∃ v3_ : Value, e = .returned (.tuple #[.agg #[.int .i64 r1, .int .i64 r2, .string r3, v3_], .int .i64 r5, .bool r6]) ∧ Kd.R (Kd.int .i64) 3 w' w.heap.size (fun _ => True) v3_ r4 ∧ Below w.heap.size w w' := by
 have hu76 := Try.underlying76
 have HR0 := zA hr0
 have HC0 := zA hc0
 clear hr0 hc0
 have HB := zA (Below.refl w.heap.size w)
 unfold spec_GetVal.f at h
 have H := h
 clear h
 have HC3 := zA H
 clear H
 go_enter Try.func89, Try.ntmps89
 go_upto_region 0 with (fail)
 have H := HC3.out
 clear HC3
 have HC4 := zA H
 clear H
 go_upto_region 1 with (first | ((with_reducible refine gate_dst (N := 4) rfl ?_); refine box_event ?hg (N := 4) ?hd (cs := #[.int .i64 0, .int .i64 0, .string (⟨#[]⟩ : ByteArray), .slice none 0 0]) (t := 76) ?hr ?_; (case hd => rfl); (case hg => rfl); (case hr => first | (go_simp; done) | (go_simp; rfl)); intro gb650 hg w5 hbox hb; have BK650 := zA (hbox); have GW650 := zA ((zq11 : w.heap.size ≤ gb650)); have GE650 := zA ((zq11 : w.heap.size ≤ gb650)); replace HB := zA (below_step zq0 hb); clear hb hbox hg))
 (try simp only [Act.put, List.setIfInBounds_toArray, List.set_cons_zero, List.set_cons_succ])
 have H := HC4.out
 clear HC4
 obtain ⟨⟨t651, t652, t653, t654⟩, A6, H⟩ := zB H
 try dsimp only at H
 have HC7 := zA H
 clear H
 go_upto_region 2 with (first | ((with_reducible refine gate_callee (f := 117) rfl ?_); refine goesL_ (some 16) rfl rfl Try.func117 (by kernel_rfl) rfl #[.slice A0 l0.length c0, .int .i64 a1] rfl zq1 ?_; (with_reducible refine (spec_GetTlv.calls _ _ l0 a1 t651 t652 t653 t654 _ ?side1 ?side2 A6.out).mono ?_); (case side1 => repeat (first | exact (Kd.C_below HR0.out HB.out) | (with_reducible refine Kd.C_alloc ?_ _) | (with_reducible refine Kd.C_drewN ?_ _) | (with_reducible refine Kd.C_drew ?_))); (case side2 => exact HC0.out); rintro e w8 ⟨v655, rfl, ho0, hb⟩; refine ⟨_, rfl, ?_⟩; have HO656 := zA (Kd.R_lower ho0 (below_size zq117)); replace BK650 := zA (blk_below (g := gb650) (o := .cells #[.int .i64 0, .int .i64 0, .string (⟨#[]⟩ : ByteArray), .slice none 0 0] 76 (0, 0)) zq150 hb); replace HB := zA (below_step zq117 hb); clear hb ho0))
 (try simp only [Act.put, List.setIfInBounds_toArray, List.set_cons_zero, List.set_cons_succ])
 have H := HC7.out
 clear HC7
 have HC9 := zA H
 clear H
 go_upto_region 3 with (first | ((with_reducible refine gate_dst (N := 11) rfl ?_); refine box_event ?hg (N := 11) ?hd (cs := #[.int .i64 0, .int .i64 0, .string (⟨#[]⟩ : ByteArray), .slice none 0 0]) (t := 76) ?hr ?_; (case hd => rfl); (case hg => rfl); (case hr => first | (go_simp; done) | (go_simp; rfl)); intro gb657 hg w10 hbox hb; replace HO656 := zA (Kd.R_below (by (with_reducible repeat (first | apply Kd.R_alloc | apply Kd.R_drewN | apply Kd.R_drew)); exact HO656.out) hb); have BK657 := zA (hbox); have GW657 := zA ((zq194 : w.heap.size ≤ gb657)); have GE657 := zA ((zq194 : w.heap.size ≤ gb657)); replace HB := zA (below_step zq117 hb); have NB650_657 := zA ((by rw [hg]; exact Nat.ne_of_lt (blk_lt (g := gb650) (o := .cells #[.int .i64 0, .int .i64 0, .string (⟨#[]⟩ : ByteArray), .slice none 0 0] 76 (0, 0)) zq150) : gb650 ≠ gb657)); have NB657_650 := zA ((by rw [hg]; exact Nat.ne_of_gt (blk_lt (g := gb650) (o := .cells #[.int .i64 0, .int .i64 0, .string (⟨#[]⟩ : ByteArray), .slice none 0 0] 76 (0, 0)) zq150) : gb657 ≠ gb650)); replace BK650 := zA (blk_below (g := gb650) (o := .cells #[.int .i64 0, .int .i64 0, .string (⟨#[]⟩ : ByteArray), .slice none 0 0] 76 (0, 0)) zq150 hb); clear hb hbox hg; have hnb11 := NB657_650.out; have hnc11 := NB650_657.out; have hcz12_0 : w10.cell? ⟨gb657, 0, none⟩ = some (.int .i64 0) := (blk_cell BK657.out 0).trans rfl; have hcz12_1 : w10.cell? ⟨gb657, 1, none⟩ = some (.int .i64 0) := (blk_cell BK657.out 1).trans rfl; have hcz12_2 : w10.cell? ⟨gb657, 2, none⟩ = some (.string (⟨#[]⟩ : ByteArray)) := (blk_cell BK657.out 2).trans rfl; have hcz12_3 : w10.cell? ⟨gb657, 3, none⟩ = some (.slice none 0 0) := (blk_cell BK657.out 3).trans rfl; have hfz12_0 := blk_frozen BK657.out 0; have hfz12_1 := blk_frozen BK657.out 1; have hfz12_2 := blk_frozen BK657.out 2; have hfz12_3 := blk_frozen BK657.out 3))
 (try simp only [Act.put, List.setIfInBounds_toArray, List.set_cons_zero, List.set_cons_succ])
 have H := HC9.out
 clear HC9
 have HC13 := zA H
 clear H
 go_upto_region 4 with (fail)
 have H := HC13.out
 clear HC13
 have HC14 := zA H
 clear H
 go_upto_region 6 with (fail)
 have H := HC14.out
 clear HC14
 by_cases c15 : t651 = 2
 ·rw [if_pos c15] at H
  have c15b0 : (t651 == 2) = true := beq_iff_eq.mpr c15
  have c15b1 : (t651 != 2) = false := bne_eq_false_iff_eq.mpr c15
  clear c15
  have HC16 := zA H
  clear H
  go_upto_region 7 with (fail)
  have H := HC16.out
  clear HC16
  obtain ⟨⟨t658, t659⟩, A17, H⟩ := zB H
  try dsimp only at H
  have HC18 := zA H
  clear H
  obtain ⟨Ao19, co19, eo19⟩ := Kd.R_slice HO656.out
  subst eo19
  go_upto_region 12 with (first | ((with_reducible refine gate_callee (f := 172) rfl ?_); refine goesL_ (some 31) rfl rfl Try.func172 (by kernel_rfl) rfl #[.slice Ao19 t652.length co19] rfl zq1 ?_; (with_reducible refine (spec_GetInt.calls k _ _ t652 t658 t659 _ ?side1 ?side2 A17.out).mono ?_); (case side1 => refine (Kd.R_reads' (e := 5) (base := w.heap.size) (ok := fun k_ => True) (n := t652.length) (c := co19) ?_).2.2; exact zq30); (case side2 => exact (Kd.R_reads' HO656.out).2.1); rintro e w20 ⟨rfl, hb⟩; refine ⟨_, rfl, ?_⟩; replace HO656 := zA (Kd.R_below zq30 hb); replace BK650 := zA (blk_below (g := gb650) (o := .cells #[.int .i64 0, .int .i64 0, .string (⟨#[]⟩ : ByteArray), .slice none 0 0] 76 (0, 0)) zq34 hb); replace BK657 := zA (blk_below (g := gb657) (o := .cells #[.int .i64 t651, .int .i64 0, .string (⟨#[]⟩ : ByteArray), .slice none 0 0] 76 (0, 0)) zq23 hb); replace HB := zA (below_step zq8 hb); clear hb; have hnb21 := NB657_650.out; have hnc21 := NB650_657.out; have hcz22_0 : w20.cell? ⟨gb657, 0, none⟩ = some (.int .i64 t651) := (blk_cell BK657.out 0).trans rfl; have hcz22_1 : w20.cell? ⟨gb657, 1, none⟩ = some (.int .i64 0) := (blk_cell BK657.out 1).trans rfl; have hcz22_2 : w20.cell? ⟨gb657, 2, none⟩ = some (.string (⟨#[]⟩ : ByteArray)) := (blk_cell BK657.out 2).trans rfl; have hcz22_3 : w20.cell? ⟨gb657, 3, none⟩ = some (.slice none 0 0) := (blk_cell BK657.out 3).trans rfl; have hfz22_0 := blk_frozen BK657.out 0; have hfz22_1 := blk_frozen BK657.out 1; have hfz22_2 := blk_frozen BK657.out 2; have hfz22_3 := blk_frozen BK657.out 3))
  (try simp only [Act.put, List.setIfInBounds_toArray, List.set_cons_zero, List.set_cons_succ])
  have H := HC18.out
  clear HC18
  by_cases c23 : t654 = true
  ·subst c23
   rw [if_pos rfl] at H
   by_cases c24 : t659 = true
   ·subst c24
    rw [if_pos rfl] at H
    obtain ⟨t660, A25, H⟩ := zB H
    try dsimp only at H
    by_cases c26 : t660 = true
    ·subst c26
     rw [if_pos rfl] at H
     have HC27 := zA H
     clear H
     have hnb28 := NB657_650.out
     have hnc28 := NB650_657.out
     have hcz29_0 : w20.cell? ⟨gb657, 0, none⟩ = some (.int .i64 t651) := (blk_cell BK657.out 0).trans rfl
     have hcz29_1 : w20.cell? ⟨gb657, 1, none⟩ = some (.int .i64 0) := (blk_cell BK657.out 1).trans rfl
     have hcz29_2 : w20.cell? ⟨gb657, 2, none⟩ = some (.string (⟨#[]⟩ : ByteArray)) := (blk_cell BK657.out 2).trans rfl
     have hcz29_3 : w20.cell? ⟨gb657, 3, none⟩ = some (.slice none 0 0) := (blk_cell BK657.out 3).trans rfl
     have hfz29_0 := blk_frozen BK657.out 0
     have hfz29_1 := blk_frozen BK657.out 1
     have hfz29_2 := blk_frozen BK657.out 2
     have hfz29_3 := blk_frozen BK657.out 3
     go_upto_region 14 with (first | (go_at_call 91; (refine (spec_ValOk.calls k t651 t658 (⟨#[]⟩ : ByteArray) _ _ ([] : List Int) true _ ?side1 ?side2 A25.out).mono ?_); (case side1 => exact Kd.C_nil _ _); (case side2 => exact Nat.le_refl _); rintro e w30 ⟨rfl, hb⟩; replace HO656 := zA (Kd.R_below zq178 hb); replace BK650 := zA (blk_below (g := gb650) (o := .cells #[.int .i64 0, .int .i64 0, .string (⟨#[]⟩ : ByteArray), .slice none 0 0] 76 (0, 0)) zq102 hb); replace BK657 := zA (blk_below (g := gb657) (o := .cells #[.int .i64 t651, .int .i64 t658, .string (⟨#[]⟩ : ByteArray), .slice none 0 0] 76 (0, 0)) zq154 hb); replace HB := zA (below_step zq8 hb); clear hb))
     (try simp only [Act.put, List.setIfInBounds_toArray, List.set_cons_zero, List.set_cons_succ])
     have H := HC27.out
     clear HC27
     simp only [Option.some.injEq, Prod.mk.injEq] at H
     obtain ⟨rfl, rfl, rfl, rfl, rfl, rfl⟩ := H
     have hnb31 := NB657_650.out
     have hnc31 := NB650_657.out
     have hcz32_0 : w30.cell? ⟨gb657, 0, none⟩ = some (.int .i64 t651) := (blk_cell BK657.out 0).trans rfl
     have hcz32_1 : w30.cell? ⟨gb657, 1, none⟩ = some (.int .i64 t658) := (blk_cell BK657.out 1).trans rfl
     have hcz32_2 : w30.cell? ⟨gb657, 2, none⟩ = some (.string (⟨#[]⟩ : ByteArray)) := (blk_cell BK657.out 2).trans rfl
     have hcz32_3 : w30.cell? ⟨gb657, 3, none⟩ = some (.slice none 0 0) := (blk_cell BK657.out 3).trans rfl
     have hfz32_0 := blk_frozen BK657.out 0
     have hfz32_1 := blk_frozen BK657.out 1
     have hfz32_2 := blk_frozen BK657.out 2
     have hfz32_3 := blk_frozen BK657.out 3
     have hcz33_0 : w30.cell? ⟨gb650, 0, none⟩ = some (.int .i64 0) := (blk_cell BK650.out 0).trans rfl
     have hcz33_1 : w30.cell? ⟨gb650, 1, none⟩ = some (.int .i64 0) := (blk_cell BK650.out 1).trans rfl
     have hcz33_2 : w30.cell? ⟨gb650, 2, none⟩ = some (.string (⟨#[]⟩ : ByteArray)) := (blk_cell BK650.out 2).trans rfl
     have hcz33_3 : w30.cell? ⟨gb650, 3, none⟩ = some (.slice none 0 0) := (blk_cell BK650.out 3).trans rfl
     have hfz33_0 := blk_frozen BK650.out 0
     have hfz33_1 := blk_frozen BK650.out 1
     have hfz33_2 := blk_frozen BK650.out 2
     have hfz33_3 := blk_frozen BK650.out 3
     go_wp2
     refine bodyPost_ret (results_ctt rfl _ _ gb650 76 #[.int .i64 t651, .int .i64 t658, .string (⟨#[]⟩ : ByteArray), .slice none 0 0] (0, 0) _ rfl (by (with_reducible repeat (first | refine blk_drewN ?_ _ | refine blk_drew ?_ | refine blk_alloc ?_ _)); refine blk_put (cs := #[.int .i64 t651, .int .i64 t658, .string (⟨#[]⟩ : ByteArray), .slice none 0 0]) ?_ 3 _ rfl; (with_reducible repeat (first | refine blk_drewN ?_ _ | refine blk_drew ?_ | refine blk_alloc ?_ _)); refine blk_put (cs := #[.int .i64 t651, .int .i64 t658, .string (⟨#[]⟩ : ByteArray), .slice none 0 0]) ?_ 2 _ rfl; (with_reducible repeat (first | refine blk_drewN ?_ _ | refine blk_drew ?_ | refine blk_alloc ?_ _)); refine blk_put (cs := #[.int .i64 t651, .int .i64 0, .string (⟨#[]⟩ : ByteArray), .slice none 0 0]) ?_ 1 _ rfl; (with_reducible repeat (first | refine blk_drewN ?_ _ | refine blk_drew ?_ | refine blk_alloc ?_ _)); refine blk_put (cs := #[.int .i64 0, .int .i64 0, .string (⟨#[]⟩ : ByteArray), .slice none 0 0]) ?_ 0 _ rfl; (with_reducible repeat (first | refine blk_drewN ?_ _ | refine blk_drew ?_ | refine blk_alloc ?_ _)); exact BK650.out) Try.underlying76 rfl (by kernel_rfl)) rfl ?_
     exact ⟨_, zq2, zq6, zq8⟩
    ·replace c26 := Bool.eq_false_iff.mpr c26
     subst c26
     rw [if_neg zF] at H
     have HC34 := zA H
     clear H
     have hnb35 := NB657_650.out
     have hnc35 := NB650_657.out
     have hcz36_0 : w20.cell? ⟨gb657, 0, none⟩ = some (.int .i64 t651) := (blk_cell BK657.out 0).trans rfl
     have hcz36_1 : w20.cell? ⟨gb657, 1, none⟩ = some (.int .i64 0) := (blk_cell BK657.out 1).trans rfl
     have hcz36_2 : w20.cell? ⟨gb657, 2, none⟩ = some (.string (⟨#[]⟩ : ByteArray)) := (blk_cell BK657.out 2).trans rfl
     have hcz36_3 : w20.cell? ⟨gb657, 3, none⟩ = some (.slice none 0 0) := (blk_cell BK657.out 3).trans rfl
     have hfz36_0 := blk_frozen BK657.out 0
     have hfz36_1 := blk_frozen BK657.out 1
     have hfz36_2 := blk_frozen BK657.out 2
     have hfz36_3 := blk_frozen BK657.out 3
     go_upto_region 13 with (first | (go_at_call 91; (refine (spec_ValOk.calls k t651 t658 (⟨#[]⟩ : ByteArray) _ _ ([] : List Int) false _ ?side1 ?side2 A25.out).mono ?_); (case side1 => exact Kd.C_nil _ _); (case side2 => exact Nat.le_refl _); rintro e w37 ⟨rfl, hb⟩; replace HO656 := zA (Kd.R_below zq178 hb); replace BK650 := zA (blk_below (g := gb650) (o := .cells #[.int .i64 0, .int .i64 0, .string (⟨#[]⟩ : ByteArray), .slice none 0 0] 76 (0, 0)) zq102 hb); replace BK657 := zA (blk_below (g := gb657) (o := .cells #[.int .i64 t651, .int .i64 t658, .string (⟨#[]⟩ : ByteArray), .slice none 0 0] 76 (0, 0)) zq154 hb); replace HB := zA (below_step zq8 hb); clear hb))
     (try simp only [Act.put, List.setIfInBounds_toArray, List.set_cons_zero, List.set_cons_succ])
     have H := HC34.out
     clear HC34
     simp only [Option.some.injEq, Prod.mk.injEq] at H
     obtain ⟨rfl, rfl, rfl, rfl, rfl, rfl⟩ := H
     have hnb38 := NB650_657.out
     have hnc38 := NB657_650.out
     have hcz39_0 : w37.cell? ⟨gb650, 0, none⟩ = some (.int .i64 0) := (blk_cell BK650.out 0).trans rfl
     have hcz39_1 : w37.cell? ⟨gb650, 1, none⟩ = some (.int .i64 0) := (blk_cell BK650.out 1).trans rfl
     have hcz39_2 : w37.cell? ⟨gb650, 2, none⟩ = some (.string (⟨#[]⟩ : ByteArray)) := (blk_cell BK650.out 2).trans rfl
     have hcz39_3 : w37.cell? ⟨gb650, 3, none⟩ = some (.slice none 0 0) := (blk_cell BK650.out 3).trans rfl
     have hfz39_0 := blk_frozen BK650.out 0
     have hfz39_1 := blk_frozen BK650.out 1
     have hfz39_2 := blk_frozen BK650.out 2
     have hfz39_3 := blk_frozen BK650.out 3
     go_wp2
     refine bodyPost_ret (results_ctt rfl _ _ gb650 76 #[.int .i64 0, .int .i64 0, .string (⟨#[]⟩ : ByteArray), .slice none 0 0] (0, 0) _ rfl zq25 Try.underlying76 rfl (by kernel_rfl)) rfl ?_
     exact ⟨_, zq2, zq6, zq8⟩
   ·replace c24 := Bool.eq_false_iff.mpr c24
    subst c24
    rw [if_neg zF] at H
    have HC40 := zA H
    clear H
    go_upto_region 13 with (fail)
    have H := HC40.out
    clear HC40
    simp only [Option.some.injEq, Prod.mk.injEq] at H
    obtain ⟨rfl, rfl, rfl, rfl, rfl, rfl⟩ := H
    have hnb41 := NB650_657.out
    have hnc41 := NB657_650.out
    have hcz42_0 : w20.cell? ⟨gb650, 0, none⟩ = some (.int .i64 0) := (blk_cell BK650.out 0).trans rfl
    have hcz42_1 : w20.cell? ⟨gb650, 1, none⟩ = some (.int .i64 0) := (blk_cell BK650.out 1).trans rfl
    have hcz42_2 : w20.cell? ⟨gb650, 2, none⟩ = some (.string (⟨#[]⟩ : ByteArray)) := (blk_cell BK650.out 2).trans rfl
    have hcz42_3 : w20.cell? ⟨gb650, 3, none⟩ = some (.slice none 0 0) := (blk_cell BK650.out 3).trans rfl
    have hfz42_0 := blk_frozen BK650.out 0
    have hfz42_1 := blk_frozen BK650.out 1
    have hfz42_2 := blk_frozen BK650.out 2
    have hfz42_3 := blk_frozen BK650.out 3
    go_wp2
    refine bodyPost_ret (results_ctt rfl _ _ gb650 76 #[.int .i64 0, .int .i64 0, .string (⟨#[]⟩ : ByteArray), .slice none 0 0] (0, 0) _ rfl zq19 Try.underlying76 rfl (by kernel_rfl)) rfl ?_
    exact ⟨_, zq2, zq6, zq8⟩
  ·replace c23 := Bool.eq_false_iff.mpr c23
   subst c23
   rw [if_neg zF] at H
   have HC43 := zA H
   clear H
   go_upto_region 13 with (fail)
   have H := HC43.out
   clear HC43
   simp only [Option.some.injEq, Prod.mk.injEq] at H
   obtain ⟨rfl, rfl, rfl, rfl, rfl, rfl⟩ := H
   have hnb44 := NB650_657.out
   have hnc44 := NB657_650.out
   have hcz45_0 : w20.cell? ⟨gb650, 0, none⟩ = some (.int .i64 0) := (blk_cell BK650.out 0).trans rfl
   have hcz45_1 : w20.cell? ⟨gb650, 1, none⟩ = some (.int .i64 0) := (blk_cell BK650.out 1).trans rfl
   have hcz45_2 : w20.cell? ⟨gb650, 2, none⟩ = some (.string (⟨#[]⟩ : ByteArray)) := (blk_cell BK650.out 2).trans rfl
   have hcz45_3 : w20.cell? ⟨gb650, 3, none⟩ = some (.slice none 0 0) := (blk_cell BK650.out 3).trans rfl
   have hfz45_0 := blk_frozen BK650.out 0
   have hfz45_1 := blk_frozen BK650.out 1
   have hfz45_2 := blk_frozen BK650.out 2
   have hfz45_3 := blk_frozen BK650.out 3
   go_wp2
   refine bodyPost_ret (results_ctt rfl _ _ gb650 76 #[.int .i64 0, .int .i64 0, .string (⟨#[]⟩ : ByteArray), .slice none 0 0] (0, 0) _ rfl zq19 Try.underlying76 rfl (by kernel_rfl)) rfl ?_
   exact ⟨_, zq2, zq6, zq8⟩
 ·rw [if_neg c15] at H
  have c15b0 : (t651 == 2) = false := beq_eq_false_iff_ne.mpr c15
  have c15b1 : (t651 != 2) = true := bne_iff_ne.mpr c15
  have HC46 := zA H
  clear H
  go_upto_region 8 with (fail)
  have H := HC46.out
  clear HC46
  by_cases c47 : t651 = 4
  ·rw [if_pos c47] at H
   have c47b0 : (t651 == 4) = true := beq_iff_eq.mpr c47
   have c47b1 : (t651 != 4) = false := bne_eq_false_iff_eq.mpr c47
   clear c47
   have HC48 := zA H
   clear H
   go_upto_region 9 with (fail)
   have H := HC48.out
   clear HC48
   have HC49 := zA H
   clear H
   have hcv50 := own_string (P := Try.prog) Try.underlying22 Try.underlying5 Try.underlying9 (Kd.own_of_R (Kd.R_far (p := ⟨gb657, 3, none⟩) (Kd.R_far (p := ⟨gb657, 2, none⟩) (Kd.R_far (p := ⟨gb657, 1, none⟩) (Kd.R_far (p := ⟨gb657, 0, none⟩) (Kd.R_types HO656.out BK657.out zq39) (fun _ hk => hk.2) (.int .i64 t651)) (fun _ hk => hk.2) (.int .i64 0)) (fun _ hk => hk.2) (.string (⟨#[]⟩ : ByteArray))) (fun _ hk => hk.2) (.slice none 0 0)))
   have hnb51 := NB657_650.out
   have hnc51 := NB650_657.out
   have hcz52_0 : w10.cell? ⟨gb657, 0, none⟩ = some (.int .i64 0) := (blk_cell BK657.out 0).trans rfl
   have hcz52_1 : w10.cell? ⟨gb657, 1, none⟩ = some (.int .i64 0) := (blk_cell BK657.out 1).trans rfl
   have hcz52_2 : w10.cell? ⟨gb657, 2, none⟩ = some (.string (⟨#[]⟩ : ByteArray)) := (blk_cell BK657.out 2).trans rfl
   have hcz52_3 : w10.cell? ⟨gb657, 3, none⟩ = some (.slice none 0 0) := (blk_cell BK657.out 3).trans rfl
   have hfz52_0 := blk_frozen BK657.out 0
   have hfz52_1 := blk_frozen BK657.out 1
   have hfz52_2 := blk_frozen BK657.out 2
   have hfz52_3 := blk_frozen BK657.out 3
   go_upto_region 12 with (fail)
   have H := HC49.out
   clear HC49
   by_cases c53 : t654 = true
   ·subst c53
    rw [if_pos rfl] at H
    obtain ⟨t661, A54, H⟩ := zB H
    try dsimp only at H
    by_cases c55 : t661 = true
    ·subst c55
     rw [if_pos rfl] at H
     have HC56 := zA H
     clear H
     have hnb57 := NB657_650.out
     have hnc57 := NB650_657.out
     have hcz58_0 : w10.cell? ⟨gb657, 0, none⟩ = some (.int .i64 0) := (blk_cell BK657.out 0).trans rfl
     have hcz58_1 : w10.cell? ⟨gb657, 1, none⟩ = some (.int .i64 0) := (blk_cell BK657.out 1).trans rfl
     have hcz58_2 : w10.cell? ⟨gb657, 2, none⟩ = some (.string (⟨#[]⟩ : ByteArray)) := (blk_cell BK657.out 2).trans rfl
     have hcz58_3 : w10.cell? ⟨gb657, 3, none⟩ = some (.slice none 0 0) := (blk_cell BK657.out 3).trans rfl
     have hfz58_0 := blk_frozen BK657.out 0
     have hfz58_1 := blk_frozen BK657.out 1
     have hfz58_2 := blk_frozen BK657.out 2
     have hfz58_3 := blk_frozen BK657.out 3
     go_upto_region 14 with (first | (go_at_call 91; (refine (spec_ValOk.calls k t651 0 (strOfNums t652) _ _ ([] : List Int) true _ ?side1 ?side2 A54.out).mono ?_); (case side1 => exact Kd.C_nil _ _); (case side2 => exact Nat.le_refl _); rintro e w59 ⟨rfl, hb⟩; replace HO656 := zA (Kd.R_below zq125 hb); replace BK650 := zA (blk_below (g := gb650) (o := .cells #[.int .i64 0, .int .i64 0, .string (⟨#[]⟩ : ByteArray), .slice none 0 0] 76 (0, 0)) zq97 hb); replace BK657 := zA (blk_below (g := gb657) (o := .cells #[.int .i64 t651, .int .i64 0, .string (strOfNums t652), .slice none 0 0] 76 (0, 0)) zq59 hb); replace HB := zA (below_step zq8 hb); clear hb))
     (try simp only [Act.put, List.setIfInBounds_toArray, List.set_cons_zero, List.set_cons_succ])
     have H := HC56.out
     clear HC56
     simp only [Option.some.injEq, Prod.mk.injEq] at H
     obtain ⟨rfl, rfl, rfl, rfl, rfl, rfl⟩ := H
     have hnb60 := NB657_650.out
     have hnc60 := NB650_657.out
     have hcz61_0 : w59.cell? ⟨gb657, 0, none⟩ = some (.int .i64 t651) := (blk_cell BK657.out 0).trans rfl
     have hcz61_1 : w59.cell? ⟨gb657, 1, none⟩ = some (.int .i64 0) := (blk_cell BK657.out 1).trans rfl
     have hcz61_2 : w59.cell? ⟨gb657, 2, none⟩ = some (.string (strOfNums t652)) := (blk_cell BK657.out 2).trans rfl
     have hcz61_3 : w59.cell? ⟨gb657, 3, none⟩ = some (.slice none 0 0) := (blk_cell BK657.out 3).trans rfl
     have hfz61_0 := blk_frozen BK657.out 0
     have hfz61_1 := blk_frozen BK657.out 1
     have hfz61_2 := blk_frozen BK657.out 2
     have hfz61_3 := blk_frozen BK657.out 3
     have hcz62_0 : w59.cell? ⟨gb650, 0, none⟩ = some (.int .i64 0) := (blk_cell BK650.out 0).trans rfl
     have hcz62_1 : w59.cell? ⟨gb650, 1, none⟩ = some (.int .i64 0) := (blk_cell BK650.out 1).trans rfl
     have hcz62_2 : w59.cell? ⟨gb650, 2, none⟩ = some (.string (⟨#[]⟩ : ByteArray)) := (blk_cell BK650.out 2).trans rfl
     have hcz62_3 : w59.cell? ⟨gb650, 3, none⟩ = some (.slice none 0 0) := (blk_cell BK650.out 3).trans rfl
     have hfz62_0 := blk_frozen BK650.out 0
     have hfz62_1 := blk_frozen BK650.out 1
     have hfz62_2 := blk_frozen BK650.out 2
     have hfz62_3 := blk_frozen BK650.out 3
     go_wp2
     refine bodyPost_ret (results_ctt rfl _ _ gb650 76 #[.int .i64 t651, .int .i64 0, .string (strOfNums t652), .slice none 0 0] (0, 0) _ rfl (by (with_reducible repeat (first | refine blk_drewN ?_ _ | refine blk_drew ?_ | refine blk_alloc ?_ _)); refine blk_put (cs := #[.int .i64 t651, .int .i64 0, .string (strOfNums t652), .slice none 0 0]) ?_ 3 _ rfl; (with_reducible repeat (first | refine blk_drewN ?_ _ | refine blk_drew ?_ | refine blk_alloc ?_ _)); refine blk_put (cs := #[.int .i64 t651, .int .i64 0, .string (⟨#[]⟩ : ByteArray), .slice none 0 0]) ?_ 2 _ rfl; (with_reducible repeat (first | refine blk_drewN ?_ _ | refine blk_drew ?_ | refine blk_alloc ?_ _)); refine blk_put (cs := #[.int .i64 t651, .int .i64 0, .string (⟨#[]⟩ : ByteArray), .slice none 0 0]) ?_ 1 _ rfl; (with_reducible repeat (first | refine blk_drewN ?_ _ | refine blk_drew ?_ | refine blk_alloc ?_ _)); refine blk_put (cs := #[.int .i64 0, .int .i64 0, .string (⟨#[]⟩ : ByteArray), .slice none 0 0]) ?_ 0 _ rfl; (with_reducible repeat (first | refine blk_drewN ?_ _ | refine blk_drew ?_ | refine blk_alloc ?_ _)); exact BK650.out) Try.underlying76 rfl (by kernel_rfl)) rfl ?_
     exact ⟨_, zq2, zq6, zq8⟩
    ·replace c55 := Bool.eq_false_iff.mpr c55
     subst c55
     rw [if_neg zF] at H
     have HC63 := zA H
     clear H
     have hnb64 := NB657_650.out
     have hnc64 := NB650_657.out
     have hcz65_0 : w10.cell? ⟨gb657, 0, none⟩ = some (.int .i64 0) := (blk_cell BK657.out 0).trans rfl
     have hcz65_1 : w10.cell? ⟨gb657, 1, none⟩ = some (.int .i64 0) := (blk_cell BK657.out 1).trans rfl
     have hcz65_2 : w10.cell? ⟨gb657, 2, none⟩ = some (.string (⟨#[]⟩ : ByteArray)) := (blk_cell BK657.out 2).trans rfl
     have hcz65_3 : w10.cell? ⟨gb657, 3, none⟩ = some (.slice none 0 0) := (blk_cell BK657.out 3).trans rfl
     have hfz65_0 := blk_frozen BK657.out 0
     have hfz65_1 := blk_frozen BK657.out 1
     have hfz65_2 := blk_frozen BK657.out 2
     have hfz65_3 := blk_frozen BK657.out 3
     go_upto_region 13 with (first | (go_at_call 91; (refine (spec_ValOk.calls k t651 0 (strOfNums t652) _ _ ([] : List Int) false _ ?side1 ?side2 A54.out).mono ?_); (case side1 => exact Kd.C_nil _ _); (case side2 => exact Nat.le_refl _); rintro e w66 ⟨rfl, hb⟩; replace HO656 := zA (Kd.R_below zq125 hb); replace BK650 := zA (blk_below (g := gb650) (o := .cells #[.int .i64 0, .int .i64 0, .string (⟨#[]⟩ : ByteArray), .slice none 0 0] 76 (0, 0)) zq97 hb); replace BK657 := zA (blk_below (g := gb657) (o := .cells #[.int .i64 t651, .int .i64 0, .string (strOfNums t652), .slice none 0 0] 76 (0, 0)) zq59 hb); replace HB := zA (below_step zq8 hb); clear hb))
     (try simp only [Act.put, List.setIfInBounds_toArray, List.set_cons_zero, List.set_cons_succ])
     have H := HC63.out
     clear HC63
     simp only [Option.some.injEq, Prod.mk.injEq] at H
     obtain ⟨rfl, rfl, rfl, rfl, rfl, rfl⟩ := H
     have hnb67 := NB650_657.out
     have hnc67 := NB657_650.out
     have hcz68_0 : w66.cell? ⟨gb650, 0, none⟩ = some (.int .i64 0) := (blk_cell BK650.out 0).trans rfl
     have hcz68_1 : w66.cell? ⟨gb650, 1, none⟩ = some (.int .i64 0) := (blk_cell BK650.out 1).trans rfl
     have hcz68_2 : w66.cell? ⟨gb650, 2, none⟩ = some (.string (⟨#[]⟩ : ByteArray)) := (blk_cell BK650.out 2).trans rfl
     have hcz68_3 : w66.cell? ⟨gb650, 3, none⟩ = some (.slice none 0 0) := (blk_cell BK650.out 3).trans rfl
     have hfz68_0 := blk_frozen BK650.out 0
     have hfz68_1 := blk_frozen BK650.out 1
     have hfz68_2 := blk_frozen BK650.out 2
     have hfz68_3 := blk_frozen BK650.out 3
     go_wp2
     refine bodyPost_ret (results_ctt rfl _ _ gb650 76 #[.int .i64 0, .int .i64 0, .string (⟨#[]⟩ : ByteArray), .slice none 0 0] (0, 0) _ rfl zq25 Try.underlying76 rfl (by kernel_rfl)) rfl ?_
     exact ⟨_, zq2, zq6, zq8⟩
   ·replace c53 := Bool.eq_false_iff.mpr c53
    subst c53
    rw [if_neg zF] at H
    have HC69 := zA H
    clear H
    go_upto_region 13 with (fail)
    have H := HC69.out
    clear HC69
    simp only [Option.some.injEq, Prod.mk.injEq] at H
    obtain ⟨rfl, rfl, rfl, rfl, rfl, rfl⟩ := H
    have hnb70 := NB650_657.out
    have hnc70 := NB657_650.out
    have hcz71_0 : w10.cell? ⟨gb650, 0, none⟩ = some (.int .i64 0) := (blk_cell BK650.out 0).trans rfl
    have hcz71_1 : w10.cell? ⟨gb650, 1, none⟩ = some (.int .i64 0) := (blk_cell BK650.out 1).trans rfl
    have hcz71_2 : w10.cell? ⟨gb650, 2, none⟩ = some (.string (⟨#[]⟩ : ByteArray)) := (blk_cell BK650.out 2).trans rfl
    have hcz71_3 : w10.cell? ⟨gb650, 3, none⟩ = some (.slice none 0 0) := (blk_cell BK650.out 3).trans rfl
    have hfz71_0 := blk_frozen BK650.out 0
    have hfz71_1 := blk_frozen BK650.out 1
    have hfz71_2 := blk_frozen BK650.out 2
    have hfz71_3 := blk_frozen BK650.out 3
    go_wp2
    refine bodyPost_ret (results_ctt rfl _ _ gb650 76 #[.int .i64 0, .int .i64 0, .string (⟨#[]⟩ : ByteArray), .slice none 0 0] (0, 0) _ rfl (by (with_reducible repeat (first | refine blk_drewN ?_ _ | refine blk_drew ?_ | refine blk_alloc ?_ _)); refine blk_put (cs := #[.int .i64 0, .int .i64 0, .string (⟨#[]⟩ : ByteArray), .slice none 0 0]) ?_ 3 _ rfl; (with_reducible repeat (first | refine blk_drewN ?_ _ | refine blk_drew ?_ | refine blk_alloc ?_ _)); refine blk_put (cs := #[.int .i64 0, .int .i64 0, .string (⟨#[]⟩ : ByteArray), .slice none 0 0]) ?_ 2 _ rfl; (with_reducible repeat (first | refine blk_drewN ?_ _ | refine blk_drew ?_ | refine blk_alloc ?_ _)); refine blk_put (cs := #[.int .i64 0, .int .i64 0, .string (⟨#[]⟩ : ByteArray), .slice none 0 0]) ?_ 1 _ rfl; (with_reducible repeat (first | refine blk_drewN ?_ _ | refine blk_drew ?_ | refine blk_alloc ?_ _)); refine blk_put (cs := #[.int .i64 0, .int .i64 0, .string (⟨#[]⟩ : ByteArray), .slice none 0 0]) ?_ 0 _ rfl; (with_reducible repeat (first | refine blk_drewN ?_ _ | refine blk_drew ?_ | refine blk_alloc ?_ _)); refine blk_far ?_ NB650_657.out _; (with_reducible repeat (first | refine blk_drewN ?_ _ | refine blk_drew ?_ | refine blk_alloc ?_ _)); refine blk_far ?_ NB650_657.out _; (with_reducible repeat (first | refine blk_drewN ?_ _ | refine blk_drew ?_ | refine blk_alloc ?_ _)); refine blk_far ?_ NB650_657.out _; (with_reducible repeat (first | refine blk_drewN ?_ _ | refine blk_drew ?_ | refine blk_alloc ?_ _)); refine blk_far ?_ NB650_657.out _; (with_reducible repeat (first | refine blk_drewN ?_ _ | refine blk_drew ?_ | refine blk_alloc ?_ _)); refine blk_far ?_ NB650_657.out _; (with_reducible repeat (first | refine blk_drewN ?_ _ | refine blk_drew ?_ | refine blk_alloc ?_ _)); exact BK650.out) Try.underlying76 rfl (by kernel_rfl)) rfl ?_
    exact ⟨_, zq2, zq6, zq8⟩
  ·rw [if_neg c47] at H
   have c47b0 : (t651 == 4) = false := beq_eq_false_iff_ne.mpr c47
   have c47b1 : (t651 != 4) = true := bne_iff_ne.mpr c47
   have HC72 := zA H
   clear H
   go_upto_region 10 with (fail)
   have H := HC72.out
   clear HC72
   by_cases c73 : t651 = 6
   ·rw [if_pos c73] at H
    have c73b0 : (t651 == 6) = true := beq_iff_eq.mpr c73
    have c73b1 : (t651 != 6) = false := bne_eq_false_iff_eq.mpr c73
    clear c73
    have HC74 := zA H
    clear H
    go_upto_region 11 with (fail)
    have H := HC74.out
    clear HC74
    obtain ⟨⟨t662, t663⟩, A75, H⟩ := zB H
    try dsimp only at H
    have HC76 := zA H
    clear H
    obtain ⟨Ao77, co77, eo77⟩ := Kd.R_slice HO656.out
    subst eo77
    go_upto_region 12 with (first | ((with_reducible refine gate_callee (f := 173) rfl ?_); refine goesL_ (some 44) rfl rfl Try.func173 (by kernel_rfl) rfl #[.slice Ao77 t652.length co77] rfl zq1 ?_; (with_reducible refine (spec_GetOid.calls k _ _ t652 t662 t663 _ ?side1 ?side2 A75.out).mono ?_); (case side1 => refine (Kd.R_reads' (e := 5) (base := w.heap.size) (ok := fun k_ => True) (n := t652.length) (c := co77) ?_).2.2; exact zq30); (case side2 => exact (Kd.R_reads' HO656.out).2.1); rintro e w78 ⟨v664, rfl, ho0, hb⟩; refine ⟨_, rfl, ?_⟩; replace HO656 := zA (Kd.R_below zq30 hb); have HO665 := zA (Kd.R_lower ho0 (below_size zq8)); replace BK650 := zA (blk_below (g := gb650) (o := .cells #[.int .i64 0, .int .i64 0, .string (⟨#[]⟩ : ByteArray), .slice none 0 0] 76 (0, 0)) zq34 hb); replace BK657 := zA (blk_below (g := gb657) (o := .cells #[.int .i64 t651, .int .i64 0, .string (⟨#[]⟩ : ByteArray), .slice none 0 0] 76 (0, 0)) zq23 hb); replace HB := zA (below_step zq8 hb); clear hb ho0; obtain ⟨Ao79, co79, eo79⟩ := Kd.R_slice HO665.out; subst eo79; have hnb80 := NB657_650.out; have hnc80 := NB650_657.out; have hcz81_0 : w78.cell? ⟨gb657, 0, none⟩ = some (.int .i64 t651) := (blk_cell BK657.out 0).trans rfl; have hcz81_1 : w78.cell? ⟨gb657, 1, none⟩ = some (.int .i64 0) := (blk_cell BK657.out 1).trans rfl; have hcz81_2 : w78.cell? ⟨gb657, 2, none⟩ = some (.string (⟨#[]⟩ : ByteArray)) := (blk_cell BK657.out 2).trans rfl; have hcz81_3 : w78.cell? ⟨gb657, 3, none⟩ = some (.slice none 0 0) := (blk_cell BK657.out 3).trans rfl; have hfz81_0 := blk_frozen BK657.out 0; have hfz81_1 := blk_frozen BK657.out 1; have hfz81_2 := blk_frozen BK657.out 2; have hfz81_3 := blk_frozen BK657.out 3))
    (try simp only [Act.put, List.setIfInBounds_toArray, List.set_cons_zero, List.set_cons_succ])
    have H := HC76.out
    clear HC76
    by_cases c82 : t654 = true
    ·subst c82
     rw [if_pos rfl] at H
     by_cases c83 : t663 = true
     ·subst c83
      rw [if_pos rfl] at H
      obtain ⟨t666, A84, H⟩ := zB H
      try dsimp only at H
      by_cases c85 : t666 = true
      ·subst c85
       rw [if_pos rfl] at H
       have HC86 := zA H
       clear H
       have hnb87 := NB657_650.out
       have hnc87 := NB650_657.out
       have hcz88_0 : w78.cell? ⟨gb657, 0, none⟩ = some (.int .i64 t651) := (blk_cell BK657.out 0).trans rfl
       have hcz88_1 : w78.cell? ⟨gb657, 1, none⟩ = some (.int .i64 0) := (blk_cell BK657.out 1).trans rfl
       have hcz88_2 : w78.cell? ⟨gb657, 2, none⟩ = some (.string (⟨#[]⟩ : ByteArray)) := (blk_cell BK657.out 2).trans rfl
       have hcz88_3 : w78.cell? ⟨gb657, 3, none⟩ = some (.slice none 0 0) := (blk_cell BK657.out 3).trans rfl
       have hfz88_0 := blk_frozen BK657.out 0
       have hfz88_1 := blk_frozen BK657.out 1
       have hfz88_2 := blk_frozen BK657.out 2
       have hfz88_3 := blk_frozen BK657.out 3
       go_upto_region 14 with (first | (go_at_call 91; (with_reducible refine (spec_ValOk.calls k t651 0 (⟨#[]⟩ : ByteArray) _ _ t662 true _ ?side1 ?side2 A84.out).mono ?_); (case side1 => refine (Kd.R_reads' (e := 3) (base := w.heap.size) (ok := fun k_ => True) (n := t662.length) (c := co79) ?_).2.2; exact zq100); (case side2 => exact (Kd.R_reads' HO665.out).2.1); rintro e w89 ⟨rfl, hb⟩; replace HO656 := zA (Kd.R_below zq176 hb); replace HO665 := zA (Kd.R_below zq100 hb); replace BK650 := zA (blk_below (g := gb650) (o := .cells #[.int .i64 0, .int .i64 0, .string (⟨#[]⟩ : ByteArray), .slice none 0 0] 76 (0, 0)) zq102 hb); replace BK657 := zA (blk_below (g := gb657) (o := .cells #[.int .i64 t651, .int .i64 0, .string (⟨#[]⟩ : ByteArray), .slice Ao79 t662.length co79] 76 (0, 0)) zq155 hb); replace HB := zA (below_step zq8 hb); clear hb))
       (try simp only [Act.put, List.setIfInBounds_toArray, List.set_cons_zero, List.set_cons_succ])
       have H := HC86.out
       clear HC86
       simp only [Option.some.injEq, Prod.mk.injEq] at H
       obtain ⟨rfl, rfl, rfl, rfl, rfl, rfl⟩ := H
       have hnb90 := NB657_650.out
       have hnc90 := NB650_657.out
       have hcz91_0 : w89.cell? ⟨gb657, 0, none⟩ = some (.int .i64 t651) := (blk_cell BK657.out 0).trans rfl
       have hcz91_1 : w89.cell? ⟨gb657, 1, none⟩ = some (.int .i64 0) := (blk_cell BK657.out 1).trans rfl
       have hcz91_2 : w89.cell? ⟨gb657, 2, none⟩ = some (.string (⟨#[]⟩ : ByteArray)) := (blk_cell BK657.out 2).trans rfl
       have hcz91_3 : w89.cell? ⟨gb657, 3, none⟩ = some (.slice Ao79 t662.length co79) := (blk_cell BK657.out 3).trans rfl
       have hfz91_0 := blk_frozen BK657.out 0
       have hfz91_1 := blk_frozen BK657.out 1
       have hfz91_2 := blk_frozen BK657.out 2
       have hfz91_3 := blk_frozen BK657.out 3
       have hcz92_0 : w89.cell? ⟨gb650, 0, none⟩ = some (.int .i64 0) := (blk_cell BK650.out 0).trans rfl
       have hcz92_1 : w89.cell? ⟨gb650, 1, none⟩ = some (.int .i64 0) := (blk_cell BK650.out 1).trans rfl
       have hcz92_2 : w89.cell? ⟨gb650, 2, none⟩ = some (.string (⟨#[]⟩ : ByteArray)) := (blk_cell BK650.out 2).trans rfl
       have hcz92_3 : w89.cell? ⟨gb650, 3, none⟩ = some (.slice none 0 0) := (blk_cell BK650.out 3).trans rfl
       have hfz92_0 := blk_frozen BK650.out 0
       have hfz92_1 := blk_frozen BK650.out 1
       have hfz92_2 := blk_frozen BK650.out 2
       have hfz92_3 := blk_frozen BK650.out 3
       go_wp2
       refine bodyPost_ret (results_ctt rfl _ _ gb650 76 #[.int .i64 t651, .int .i64 0, .string (⟨#[]⟩ : ByteArray), .slice Ao79 t662.length co79] (0, 0) _ rfl zq74 Try.underlying76 rfl (by kernel_rfl)) rfl ?_
       exact ⟨_, zq2, (by (with_reducible repeat (first | apply Kd.R_alloc | apply Kd.R_drewN | apply Kd.R_drew)); exact Kd.R_mono (Kd.R_far (p := ⟨gb650, 3, none⟩) (Kd.R_far (p := ⟨gb650, 2, none⟩) (Kd.R_far (p := ⟨gb650, 1, none⟩) (Kd.R_far (p := ⟨gb650, 0, none⟩) (Kd.R_types HO665.out BK650.out zq39) (fun _ hk => hk.2) (.int .i64 t651)) (fun _ hk => hk.2) (.int .i64 0)) (fun _ hk => hk.2) (.string (⟨#[]⟩ : ByteArray))) (fun _ hk => hk.2) (.slice Ao79 t662.length co79)) (fun _ hk => trivial)), zq8⟩
      ·replace c85 := Bool.eq_false_iff.mpr c85
       subst c85
       rw [if_neg zF] at H
       have HC93 := zA H
       clear H
       have hnb94 := NB657_650.out
       have hnc94 := NB650_657.out
       have hcz95_0 : w78.cell? ⟨gb657, 0, none⟩ = some (.int .i64 t651) := (blk_cell BK657.out 0).trans rfl
       have hcz95_1 : w78.cell? ⟨gb657, 1, none⟩ = some (.int .i64 0) := (blk_cell BK657.out 1).trans rfl
       have hcz95_2 : w78.cell? ⟨gb657, 2, none⟩ = some (.string (⟨#[]⟩ : ByteArray)) := (blk_cell BK657.out 2).trans rfl
       have hcz95_3 : w78.cell? ⟨gb657, 3, none⟩ = some (.slice none 0 0) := (blk_cell BK657.out 3).trans rfl
       have hfz95_0 := blk_frozen BK657.out 0
       have hfz95_1 := blk_frozen BK657.out 1
       have hfz95_2 := blk_frozen BK657.out 2
       have hfz95_3 := blk_frozen BK657.out 3
       go_upto_region 13 with (first | (go_at_call 91; (with_reducible refine (spec_ValOk.calls k t651 0 (⟨#[]⟩ : ByteArray) _ _ t662 false _ ?side1 ?side2 A84.out).mono ?_); (case side1 => refine (Kd.R_reads' (e := 3) (base := w.heap.size) (ok := fun k_ => True) (n := t662.length) (c := co79) ?_).2.2; exact zq100); (case side2 => exact (Kd.R_reads' HO665.out).2.1); rintro e w96 ⟨rfl, hb⟩; replace HO656 := zA (Kd.R_below zq176 hb); replace HO665 := zA (Kd.R_below zq100 hb); replace BK650 := zA (blk_below (g := gb650) (o := .cells #[.int .i64 0, .int .i64 0, .string (⟨#[]⟩ : ByteArray), .slice none 0 0] 76 (0, 0)) zq102 hb); replace BK657 := zA (blk_below (g := gb657) (o := .cells #[.int .i64 t651, .int .i64 0, .string (⟨#[]⟩ : ByteArray), .slice Ao79 t662.length co79] 76 (0, 0)) zq155 hb); replace HB := zA (below_step zq8 hb); clear hb))
       (try simp only [Act.put, List.setIfInBounds_toArray, List.set_cons_zero, List.set_cons_succ])
       have H := HC93.out
       clear HC93
       simp only [Option.some.injEq, Prod.mk.injEq] at H
       obtain ⟨rfl, rfl, rfl, rfl, rfl, rfl⟩ := H
       have hnb97 := NB650_657.out
       have hnc97 := NB657_650.out
       have hcz98_0 : w96.cell? ⟨gb650, 0, none⟩ = some (.int .i64 0) := (blk_cell BK650.out 0).trans rfl
       have hcz98_1 : w96.cell? ⟨gb650, 1, none⟩ = some (.int .i64 0) := (blk_cell BK650.out 1).trans rfl
       have hcz98_2 : w96.cell? ⟨gb650, 2, none⟩ = some (.string (⟨#[]⟩ : ByteArray)) := (blk_cell BK650.out 2).trans rfl
       have hcz98_3 : w96.cell? ⟨gb650, 3, none⟩ = some (.slice none 0 0) := (blk_cell BK650.out 3).trans rfl
       have hfz98_0 := blk_frozen BK650.out 0
       have hfz98_1 := blk_frozen BK650.out 1
       have hfz98_2 := blk_frozen BK650.out 2
       have hfz98_3 := blk_frozen BK650.out 3
       go_wp2
       refine bodyPost_ret (results_ctt rfl _ _ gb650 76 #[.int .i64 0, .int .i64 0, .string (⟨#[]⟩ : ByteArray), .slice none 0 0] (0, 0) _ rfl zq25 Try.underlying76 rfl (by kernel_rfl)) rfl ?_
       exact ⟨_, zq2, zq6, zq8⟩
     ·replace c83 := Bool.eq_false_iff.mpr c83
      subst c83
      rw [if_neg zF] at H
      have HC99 := zA H
      clear H
      go_upto_region 13 with (fail)
      have H := HC99.out
      clear HC99
      simp only [Option.some.injEq, Prod.mk.injEq] at H
      obtain ⟨rfl, rfl, rfl, rfl, rfl, rfl⟩ := H
      have hnb100 := NB650_657.out
      have hnc100 := NB657_650.out
      have hcz101_0 : w78.cell? ⟨gb650, 0, none⟩ = some (.int .i64 0) := (blk_cell BK650.out 0).trans rfl
      have hcz101_1 : w78.cell? ⟨gb650, 1, none⟩ = some (.int .i64 0) := (blk_cell BK650.out 1).trans rfl
      have hcz101_2 : w78.cell? ⟨gb650, 2, none⟩ = some (.string (⟨#[]⟩ : ByteArray)) := (blk_cell BK650.out 2).trans rfl
      have hcz101_3 : w78.cell? ⟨gb650, 3, none⟩ = some (.slice none 0 0) := (blk_cell BK650.out 3).trans rfl
      have hfz101_0 := blk_frozen BK650.out 0
      have hfz101_1 := blk_frozen BK650.out 1
      have hfz101_2 := blk_frozen BK650.out 2
      have hfz101_3 := blk_frozen BK650.out 3
      go_wp2
      refine bodyPost_ret (results_ctt rfl _ _ gb650 76 #[.int .i64 0, .int .i64 0, .string (⟨#[]⟩ : ByteArray), .slice none 0 0] (0, 0) _ rfl zq19 Try.underlying76 rfl (by kernel_rfl)) rfl ?_
      exact ⟨_, zq2, zq6, zq8⟩
    ·replace c82 := Bool.eq_false_iff.mpr c82
     subst c82
     rw [if_neg zF] at H
     have HC102 := zA H
     clear H
     go_upto_region 13 with (fail)
     have H := HC102.out
     clear HC102
     simp only [Option.some.injEq, Prod.mk.injEq] at H
     obtain ⟨rfl, rfl, rfl, rfl, rfl, rfl⟩ := H
     have hnb103 := NB650_657.out
     have hnc103 := NB657_650.out
     have hcz104_0 : w78.cell? ⟨gb650, 0, none⟩ = some (.int .i64 0) := (blk_cell BK650.out 0).trans rfl
     have hcz104_1 : w78.cell? ⟨gb650, 1, none⟩ = some (.int .i64 0) := (blk_cell BK650.out 1).trans rfl
     have hcz104_2 : w78.cell? ⟨gb650, 2, none⟩ = some (.string (⟨#[]⟩ : ByteArray)) := (blk_cell BK650.out 2).trans rfl
     have hcz104_3 : w78.cell? ⟨gb650, 3, none⟩ = some (.slice none 0 0) := (blk_cell BK650.out 3).trans rfl
     have hfz104_0 := blk_frozen BK650.out 0
     have hfz104_1 := blk_frozen BK650.out 1
     have hfz104_2 := blk_frozen BK650.out 2
     have hfz104_3 := blk_frozen BK650.out 3
     go_wp2
     refine bodyPost_ret (results_ctt rfl _ _ gb650 76 #[.int .i64 0, .int .i64 0, .string (⟨#[]⟩ : ByteArray), .slice none 0 0] (0, 0) _ rfl zq19 Try.underlying76 rfl (by kernel_rfl)) rfl ?_
     exact ⟨_, zq2, zq6, zq8⟩
   ·rw [if_neg c73] at H
    have c73b0 : (t651 == 6) = false := beq_eq_false_iff_ne.mpr c73
    have c73b1 : (t651 != 6) = true := bne_iff_ne.mpr c73
    have HC105 := zA H
    clear H
    go_upto_region 5 with (fail)
    have H := HC105.out
    clear HC105
    have HC106 := zA H
    clear H
    obtain ⟨Ao107, co107, eo107⟩ := Kd.R_slice HO656.out
    subst eo107
    go_upto_region 12 with (fail)
    have H := HC106.out
    clear HC106
    by_cases c108 : t654 = true
    ·subst c108
     rw [if_pos rfl] at H
     by_cases c109 : ((t652.length : Int) = 0)
     ·rw [if_pos c109] at H
      have c109b0 : ((t652.length : Int) == 0) = true := beq_iff_eq.mpr c109
      have c109b1 : ((t652.length : Int) != 0) = false := bne_eq_false_iff_eq.mpr c109
      clear c109
      obtain ⟨t667, A110, H⟩ := zB H
      try dsimp only at H
      by_cases c111 : t667 = true
      ·subst c111
       rw [if_pos rfl] at H
       have HC112 := zA H
       clear H
       have hnb113 := NB657_650.out
       have hnc113 := NB650_657.out
       have hcz114_0 : w10.cell? ⟨gb657, 0, none⟩ = some (.int .i64 0) := (blk_cell BK657.out 0).trans rfl
       have hcz114_1 : w10.cell? ⟨gb657, 1, none⟩ = some (.int .i64 0) := (blk_cell BK657.out 1).trans rfl
       have hcz114_2 : w10.cell? ⟨gb657, 2, none⟩ = some (.string (⟨#[]⟩ : ByteArray)) := (blk_cell BK657.out 2).trans rfl
       have hcz114_3 : w10.cell? ⟨gb657, 3, none⟩ = some (.slice none 0 0) := (blk_cell BK657.out 3).trans rfl
       have hfz114_0 := blk_frozen BK657.out 0
       have hfz114_1 := blk_frozen BK657.out 1
       have hfz114_2 := blk_frozen BK657.out 2
       have hfz114_3 := blk_frozen BK657.out 3
       go_upto_region 14 with (first | (go_at_call 91; (refine (spec_ValOk.calls k t651 0 (⟨#[]⟩ : ByteArray) _ _ ([] : List Int) true _ ?side1 ?side2 A110.out).mono ?_); (case side1 => exact Kd.C_nil _ _); (case side2 => exact Nat.le_refl _); rintro e w115 ⟨rfl, hb⟩; replace HO656 := zA (Kd.R_below zq30 hb); replace BK650 := zA (blk_below (g := gb650) (o := .cells #[.int .i64 0, .int .i64 0, .string (⟨#[]⟩ : ByteArray), .slice none 0 0] 76 (0, 0)) zq34 hb); replace BK657 := zA (blk_below (g := gb657) (o := .cells #[.int .i64 t651, .int .i64 0, .string (⟨#[]⟩ : ByteArray), .slice none 0 0] 76 (0, 0)) zq23 hb); replace HB := zA (below_step zq8 hb); clear hb))
       (try simp only [Act.put, List.setIfInBounds_toArray, List.set_cons_zero, List.set_cons_succ])
       have H := HC112.out
       clear HC112
       simp only [Option.some.injEq, Prod.mk.injEq] at H
       obtain ⟨rfl, rfl, rfl, rfl, rfl, rfl⟩ := H
       have hnb116 := NB657_650.out
       have hnc116 := NB650_657.out
       have hcz117_0 : w115.cell? ⟨gb657, 0, none⟩ = some (.int .i64 t651) := (blk_cell BK657.out 0).trans rfl
       have hcz117_1 : w115.cell? ⟨gb657, 1, none⟩ = some (.int .i64 0) := (blk_cell BK657.out 1).trans rfl
       have hcz117_2 : w115.cell? ⟨gb657, 2, none⟩ = some (.string (⟨#[]⟩ : ByteArray)) := (blk_cell BK657.out 2).trans rfl
       have hcz117_3 : w115.cell? ⟨gb657, 3, none⟩ = some (.slice none 0 0) := (blk_cell BK657.out 3).trans rfl
       have hfz117_0 := blk_frozen BK657.out 0
       have hfz117_1 := blk_frozen BK657.out 1
       have hfz117_2 := blk_frozen BK657.out 2
       have hfz117_3 := blk_frozen BK657.out 3
       have hcz118_0 : w115.cell? ⟨gb650, 0, none⟩ = some (.int .i64 0) := (blk_cell BK650.out 0).trans rfl
       have hcz118_1 : w115.cell? ⟨gb650, 1, none⟩ = some (.int .i64 0) := (blk_cell BK650.out 1).trans rfl
       have hcz118_2 : w115.cell? ⟨gb650, 2, none⟩ = some (.string (⟨#[]⟩ : ByteArray)) := (blk_cell BK650.out 2).trans rfl
       have hcz118_3 : w115.cell? ⟨gb650, 3, none⟩ = some (.slice none 0 0) := (blk_cell BK650.out 3).trans rfl
       have hfz118_0 := blk_frozen BK650.out 0
       have hfz118_1 := blk_frozen BK650.out 1
       have hfz118_2 := blk_frozen BK650.out 2
       have hfz118_3 := blk_frozen BK650.out 3
       go_wp2
       refine bodyPost_ret (results_ctt rfl _ _ gb650 76 #[.int .i64 t651, .int .i64 0, .string (⟨#[]⟩ : ByteArray), .slice none 0 0] (0, 0) _ rfl zq74 Try.underlying76 rfl (by kernel_rfl)) rfl ?_
       exact ⟨_, zq2, zq6, zq8⟩
      ·replace c111 := Bool.eq_false_iff.mpr c111
       subst c111
       rw [if_neg zF] at H
       have HC119 := zA H
       clear H
       have hnb120 := NB657_650.out
       have hnc120 := NB650_657.out
       have hcz121_0 : w10.cell? ⟨gb657, 0, none⟩ = some (.int .i64 0) := (blk_cell BK657.out 0).trans rfl
       have hcz121_1 : w10.cell? ⟨gb657, 1, none⟩ = some (.int .i64 0) := (blk_cell BK657.out 1).trans rfl
       have hcz121_2 : w10.cell? ⟨gb657, 2, none⟩ = some (.string (⟨#[]⟩ : ByteArray)) := (blk_cell BK657.out 2).trans rfl
       have hcz121_3 : w10.cell? ⟨gb657, 3, none⟩ = some (.slice none 0 0) := (blk_cell BK657.out 3).trans rfl
       have hfz121_0 := blk_frozen BK657.out 0
       have hfz121_1 := blk_frozen BK657.out 1
       have hfz121_2 := blk_frozen BK657.out 2
       have hfz121_3 := blk_frozen BK657.out 3
       go_upto_region 13 with (first | (go_at_call 91; (refine (spec_ValOk.calls k t651 0 (⟨#[]⟩ : ByteArray) _ _ ([] : List Int) false _ ?side1 ?side2 A110.out).mono ?_); (case side1 => exact Kd.C_nil _ _); (case side2 => exact Nat.le_refl _); rintro e w122 ⟨rfl, hb⟩; replace HO656 := zA (Kd.R_below zq30 hb); replace BK650 := zA (blk_below (g := gb650) (o := .cells #[.int .i64 0, .int .i64 0, .string (⟨#[]⟩ : ByteArray), .slice none 0 0] 76 (0, 0)) zq34 hb); replace BK657 := zA (blk_below (g := gb657) (o := .cells #[.int .i64 t651, .int .i64 0, .string (⟨#[]⟩ : ByteArray), .slice none 0 0] 76 (0, 0)) zq23 hb); replace HB := zA (below_step zq8 hb); clear hb))
       (try simp only [Act.put, List.setIfInBounds_toArray, List.set_cons_zero, List.set_cons_succ])
       have H := HC119.out
       clear HC119
       simp only [Option.some.injEq, Prod.mk.injEq] at H
       obtain ⟨rfl, rfl, rfl, rfl, rfl, rfl⟩ := H
       have hnb123 := NB650_657.out
       have hnc123 := NB657_650.out
       have hcz124_0 : w122.cell? ⟨gb650, 0, none⟩ = some (.int .i64 0) := (blk_cell BK650.out 0).trans rfl
       have hcz124_1 : w122.cell? ⟨gb650, 1, none⟩ = some (.int .i64 0) := (blk_cell BK650.out 1).trans rfl
       have hcz124_2 : w122.cell? ⟨gb650, 2, none⟩ = some (.string (⟨#[]⟩ : ByteArray)) := (blk_cell BK650.out 2).trans rfl
       have hcz124_3 : w122.cell? ⟨gb650, 3, none⟩ = some (.slice none 0 0) := (blk_cell BK650.out 3).trans rfl
       have hfz124_0 := blk_frozen BK650.out 0
       have hfz124_1 := blk_frozen BK650.out 1
       have hfz124_2 := blk_frozen BK650.out 2
       have hfz124_3 := blk_frozen BK650.out 3
       go_wp2
       refine bodyPost_ret (results_ctt rfl _ _ gb650 76 #[.int .i64 0, .int .i64 0, .string (⟨#[]⟩ : ByteArray), .slice none 0 0] (0, 0) _ rfl zq25 Try.underlying76 rfl (by kernel_rfl)) rfl ?_
       exact ⟨_, zq2, zq6, zq8⟩
     ·rw [if_neg c109] at H
      have c109b0 : ((t652.length : Int) == 0) = false := beq_eq_false_iff_ne.mpr c109
      have c109b1 : ((t652.length : Int) != 0) = true := bne_iff_ne.mpr c109
      have c109b2 : ¬ (t652 = []) := fun h_ => c109 (by rw [h_]; rfl)
      have HC125 := zA H
      clear H
      go_upto_region 13 with (fail)
      have H := HC125.out
      clear HC125
      simp only [Option.some.injEq, Prod.mk.injEq] at H
      obtain ⟨rfl, rfl, rfl, rfl, rfl, rfl⟩ := H
      have hnb126 := NB650_657.out
      have hnc126 := NB657_650.out
      have hcz127_0 : w10.cell? ⟨gb650, 0, none⟩ = some (.int .i64 0) := (blk_cell BK650.out 0).trans rfl
      have hcz127_1 : w10.cell? ⟨gb650, 1, none⟩ = some (.int .i64 0) := (blk_cell BK650.out 1).trans rfl
      have hcz127_2 : w10.cell? ⟨gb650, 2, none⟩ = some (.string (⟨#[]⟩ : ByteArray)) := (blk_cell BK650.out 2).trans rfl
      have hcz127_3 : w10.cell? ⟨gb650, 3, none⟩ = some (.slice none 0 0) := (blk_cell BK650.out 3).trans rfl
      have hfz127_0 := blk_frozen BK650.out 0
      have hfz127_1 := blk_frozen BK650.out 1
      have hfz127_2 := blk_frozen BK650.out 2
      have hfz127_3 := blk_frozen BK650.out 3
      go_wp2
      refine bodyPost_ret (results_ctt rfl _ _ gb650 76 #[.int .i64 0, .int .i64 0, .string (⟨#[]⟩ : ByteArray), .slice none 0 0] (0, 0) _ rfl zq43 Try.underlying76 rfl (by kernel_rfl)) rfl ?_
      exact ⟨_, zq2, zq6, zq8⟩
    ·replace c108 := Bool.eq_false_iff.mpr c108
     subst c108
     rw [if_neg zF] at H
     have HC128 := zA H
     clear H
     go_upto_region 13 with (fail)
     have H := HC128.out
     clear HC128
     simp only [Option.some.injEq, Prod.mk.injEq] at H
     obtain ⟨rfl, rfl, rfl, rfl, rfl, rfl⟩ := H
     have hnb129 := NB650_657.out
     have hnc129 := NB657_650.out
     have hcz130_0 : w10.cell? ⟨gb650, 0, none⟩ = some (.int .i64 0) := (blk_cell BK650.out 0).trans rfl
     have hcz130_1 : w10.cell? ⟨gb650, 1, none⟩ = some (.int .i64 0) := (blk_cell BK650.out 1).trans rfl
     have hcz130_2 : w10.cell? ⟨gb650, 2, none⟩ = some (.string (⟨#[]⟩ : ByteArray)) := (blk_cell BK650.out 2).trans rfl
     have hcz130_3 : w10.cell? ⟨gb650, 3, none⟩ = some (.slice none 0 0) := (blk_cell BK650.out 3).trans rfl
     have hfz130_0 := blk_frozen BK650.out 0
     have hfz130_1 := blk_frozen BK650.out 1
     have hfz130_2 := blk_frozen BK650.out 2
     have hfz130_3 := blk_frozen BK650.out 3
     go_wp2
     refine bodyPost_ret (results_ctt rfl _ _ gb650 76 #[.int .i64 0, .int .i64 0, .string (⟨#[]⟩ : ByteArray), .slice none 0 0] (0, 0) _ rfl zq43 Try.underlying76 rfl (by kernel_rfl)) rfl ?_
     exact ⟨_, zq2, zq6, zq8⟩

/-! ### spec_l1Once: function 127 -/
def spec_l1Once.f (s0_0 : List Int) (s0_1 : Int) (s0_2 : Int) (a1 : Int) : Option (Bool × Int × Int) := (spec_l1Below.f s0_0 s0_1 s0_2 a1).bind fun bt668 => (some ((bt668.1 == 0), bt668.2.1, bt668.2.2))
set_option maxHeartbeats 8000000 in
set_option maxRecDepth 100000 in
theorem spec_l1Once.calls (g : Nat) (s0_0 : List Int) (s0_1 : Int) (s0_2 : Int) (a1 : Int) (r1 : Bool) (r2 : Int) (r3 : Int) (w0 w : World) (hI : IsS170 w0 w g s0_0 s0_1 s0_2) (hB : Below w0.heap.size w0 w) (h : spec_l1Once.f s0_0 s0_1 s0_2 a1 = some (r1, r2, r3)) :
  Calls Try.prog 127 #[.pointer (some ⟨g, 0, none⟩), .int .i64 a1] w fun e w' => e = .returned (.bool r1) ∧ IsS170 w0 w' g s0_0 r2 r3 ∧ Below w0.heap.size w0 w' ∧ KeepBut w w' g none := by
 have HI0 := zA hI
 have HK := zA (KeepBut.refl w g none)
 have HL := zA hB.size
 clear hI
 have HW0 := zA hB.size
 have HB := zA hB
 clear hB
 unfold spec_l1Once.f at h
 have H := h
 clear h
 have HC3 := zA H
 clear H
 go_enter Try.func127, Try.ntmps127
 go_upto_region 0 with (fail)
 have H := HC3.out
 clear HC3
 have HC4 := zA H
 clear H
 go_upto_region 1 with (fail)
 have H := HC4.out
 clear HC4
 obtain ⟨⟨t668, t669, t670⟩, A5, H⟩ := zB H
 try dsimp only at H
 simp only [Option.some.injEq, Prod.mk.injEq] at H
 obtain ⟨rfl, rfl, rfl⟩ := H
 go_wp2_with (first | ((with_reducible refine gate_callee (f := 131) rfl ?_); refine goesL_ (some 7) rfl rfl Try.func131 (by kernel_rfl) rfl #[.pointer (some ⟨g, 0, none⟩), .int .i64 a1] rfl zq1 ?_; (with_reducible refine (spec_l1Below.calls g s0_0 s0_1 s0_2 a1 t668 t669 t670 w0 _ ?side1 ?side2 A5.out).mono ?_); (case side1 => repeat (first | (with_reducible first | exact HI0.out | apply IsS170.alloc | apply IsS170.drewN | apply IsS170.drew | apply IsS170.set_1 | apply IsS170.set_2) | exact HI0.out)); (case side2 => repeat (first | (with_reducible first | exact HB.out | apply below_alloc | apply pw_below_drewN | apply below_drew1 | refine below_set ?_ (IsS170.ge HI0.out)) | exact HB.out)); rintro e w6 ⟨rfl, hi, hb, hk⟩; refine ⟨_, rfl, ?_⟩; replace HK := zA (KeepBut.trans zq3 hk (.inl rfl)); replace HB := zA (hb); replace HI0 := zA (hi); clear hb hk hi))
 go_ret
 exact ⟨zq2, zq4, zq5, zq3⟩

end Go.Proofs.Ytkcgghgkmgbphaa.PFnVals
