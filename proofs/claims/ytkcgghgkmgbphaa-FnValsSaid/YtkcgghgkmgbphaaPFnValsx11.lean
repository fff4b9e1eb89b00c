-- WRITTEN BY a turned copy of the kit's printer (wip/patch_print.py), for this claim
import Derived.Test.YtkcgghgkmgbphaaPFnValsx0
import Derived.Test.YtkcgghgkmgbphaaPFnValsx2
import Derived.Test.YtkcgghgkmgbphaaPFnValsx9
import Derived.Test.YtkcgghgkmgbphaaPFnValsx10
namespace Go.Proofs.Ytkcgghgkmgbphaa.PFnVals
open Go.RowKit Go.Proofs.YtkcgghgkmgbphaaW.PrintWords Go.Proofs.YtkcgghgkmgbphaaW.PrintLast Go.Proofs.YtkcgghgkmgbphaaW.PrintMore
attribute [local go_sem] max2_int min2_int max_two min_two max_three min_three max_four min_four   -- for this text's walks alone
set_option linter.unusedVariables false
set_option linter.unusedSimpArgs false

attribute [local go_sem] cell_setCell_m
/-! ### impl_GetVal: function 88 -/
def impl_GetVal.f (k : Nat) (l0 : List Int) (a1 : Int) : Option (Int × Int × ByteArray × List Int × Int × Bool) := (impl_GetTlv.f l0 a1).bind fun bt551 => (if bt551.2.2.2 = true then (if bt551.1 = 2 then ((impl_GetInt.f k bt551.2.1).bind fun bt558 => (if bt558.2 = true then ((impl_ValOk.f k bt551.1 bt558.1 (⟨#[]⟩ : ByteArray) ([] : List Int)).bind fun t560 => (if t560 = true then (some (bt551.1, bt558.1, (⟨#[]⟩ : ByteArray), ([] : List Int), bt551.2.2.1, true)) else (some (0, 0, (⟨#[]⟩ : ByteArray), ([] : List Int), 0, false)))) else (some (0, 0, (⟨#[]⟩ : ByteArray), ([] : List Int), 0, false)))) else (if bt551.1 = 4 then ((impl_ValOk.f k bt551.1 0 (strOfNums bt551.2.1) ([] : List Int)).bind fun t561 => (if t561 = true then (some (bt551.1, 0, strOfNums bt551.2.1, ([] : List Int), bt551.2.2.1, true)) else (some (0, 0, (⟨#[]⟩ : ByteArray), ([] : List Int), 0, false)))) else (if bt551.1 = 6 then ((impl_GetOid.f k bt551.2.1).bind fun bt562 => (if bt562.2 = true then ((impl_ValOk.f k bt551.1 0 (⟨#[]⟩ : ByteArray) bt562.1).bind fun t566 => (if t566 = true then (some (bt551.1, 0, (⟨#[]⟩ : ByteArray), bt562.1, bt551.2.2.1, true)) else (some (0, 0, (⟨#[]⟩ : ByteArray), ([] : List Int), 0, false)))) else (some (0, 0, (⟨#[]⟩ : ByteArray), ([] : List Int), 0, false)))) else (if ((bt551.2.1.length : Int) = 0) then ((impl_ValOk.f k bt551.1 0 (⟨#[]⟩ : ByteArray) ([] : List Int)).bind fun t567 => (if t567 = true then (some (bt551.1, 0, (⟨#[]⟩ : ByteArray), ([] : List Int), bt551.2.2.1, true)) else (some (0, 0, (⟨#[]⟩ : ByteArray), ([] : List Int), 0, false)))) else (some (0, 0, (⟨#[]⟩ : ByteArray), ([] : List Int), 0, false)))))) else (some (0, 0, (⟨#[]⟩ : ByteArray), ([] : List Int), 0, false)))
theorem impl_GetVal.mono : ∀ a0 a1 k, LeO (impl_GetVal.f k a0 a1) (impl_GetVal.f (k + 1) a0 a1) := by
 intro a0 a1 k
 unfold impl_GetVal.f
 have m0_ := @impl_GetInt.mono
 have m1_ := @impl_GetOid.mono
 have m2_ := @impl_ValOk.mono
 exact zR
set_option maxHeartbeats 8000000 in
set_option maxRecDepth 100000 in
theorem impl_GetVal.calls (k : Nat) (A0 : Option Addr) (c0 : Nat) (l0 : List Int) (a1 : Int) (r1 : Int) (r2 : Int) (r3 : ByteArray) (r4 : List Int) (r5 : Int) (r6 : Bool) (w : World) (hr0 : Kd.C (Kd.int .u8) w A0 l0.length l0) (hc0 : l0.length ≤ c0) (h : impl_GetVal.f k l0 a1 = some (r1, r2, r3, r4, r5, r6)) :
  Calls Try.prog 88 #[.slice A0 l0.length c0, .int .i64 a1] w fun e w' => ∃ v3_ : Value, e = .returned (.tuple #[.agg #[.int .i64 r1, .int .i64 r2, .string r3, v3_], .int .i64 r5, .bool r6]) ∧ Kd.R (Kd.int .i64) 3 w' w.heap.size (fun _ => True) v3_ r4 ∧ Below w.heap.size w w' := by
 have hu76 := Try.underlying76
 have HR0 := zA hr0
 have HC0 := zA hc0
 clear hr0 hc0
 have HB := zA (Below.refl w.heap.size w)
 unfold impl_GetVal.f at h
 have H := h
 clear h
 have HC3 := zA H
 clear H
 go_enter Try.func88, Try.ntmps88
 go_upto_region 0 with (fail)
 have H := HC3.out
 clear HC3
 have HC4 := zA H
 clear H
 go_upto_region 1 with (first | ((with_reducible refine gate_dst (N := 4) rfl ?_); refine box_event ?hg (N := 4) ?hd (cs := #[.int .i64 0, .int .i64 0, .string (⟨#[]⟩ : ByteArray), .slice none 0 0]) (t := 76) ?hr ?_; (case hd => rfl); (case hg => rfl); (case hr => first | (go_simp; done) | (go_simp; rfl)); intro gb550 hg w5 hbox hb; have BK550 := zA (hbox); have GW550 := zA ((zq11 : w.heap.size ≤ gb550)); have GE550 := zA ((zq11 : w.heap.size ≤ gb550)); replace HB := zA (below_step zq0 hb); clear hb hbox hg))
 (try simp only [Act.put, List.setIfInBounds_toArray, List.set_cons_zero, List.set_cons_succ])
 have H := HC4.out
 clear HC4
 obtain ⟨⟨t551, t552, t553, t554⟩, A6, H⟩ := zB H
 try dsimp only at H
 have HC7 := zA H
 clear H
 go_upto_region 2 with (first | ((with_reducible refine gate_callee (f := 112) rfl ?_); refine goesL_ (some 15) rfl rfl Try.func112 (by kernel_rfl) rfl #[.slice A0 l0.length c0, .int .i64 a1] rfl zq1 ?_; (with_reducible refine (impl_GetTlv.calls _ _ l0 a1 t551 t552 t553 t554 _ ?side1 ?side2 A6.out).mono ?_); (case side1 => repeat (first | exact (Kd.C_below HR0.out HB.out) | (with_reducible refine Kd.C_alloc ?_ _) | (with_reducible refine Kd.C_drewN ?_ _) | (with_reducible refine Kd.C_drew ?_))); (case side2 => exact HC0.out); rintro e w8 ⟨v555, rfl, ho0, hb⟩; refine ⟨_, rfl, ?_⟩; have HO556 := zA (Kd.R_lower ho0 (below_size zq116)); replace BK550 := zA (blk_below (g := gb550) (o := .cells #[.int .i64 0, .int .i64 0, .string (⟨#[]⟩ : ByteArray), .slice none 0 0] 76 (0, 0)) zq149 hb); replace HB := zA (below_step zq116 hb); clear hb ho0))
 (try simp only [Act.put, List.setIfInBounds_toArray, List.set_cons_zero, List.set_cons_succ])
 have H := HC7.out
 clear HC7
 have HC9 := zA H
 clear H
 go_upto_region 3 with (first | ((with_reducible refine gate_dst (N := 11) rfl ?_); refine box_event ?hg (N := 11) ?hd (cs := #[.int .i64 0, .int .i64 0, .string (⟨#[]⟩ : ByteArray), .slice none 0 0]) (t := 76) ?hr ?_; (case hd => rfl); (case hg => rfl); (case hr => first | (go_simp; done) | (go_simp; rfl)); intro gb557 hg w10 hbox hb; replace HO556 := zA (Kd.R_below (by (with_reducible repeat (first | apply Kd.R_alloc | apply Kd.R_drewN | apply Kd.R_drew)); exact HO556.out) hb); have BK557 := zA (hbox); have GW557 := zA ((zq193 : w.heap.size ≤ gb557)); have GE557 := zA ((zq193 : w.heap.size ≤ gb557)); replace HB := zA (below_step zq116 hb); have NB550_557 := zA ((by rw [hg]; exact Nat.ne_of_lt (blk_lt (g := gb550) (o := .cells #[.int .i64 0, .int .i64 0, .string (⟨#[]⟩ : ByteArray), .slice none 0 0] 76 (0, 0)) zq149) : gb550 ≠ gb557)); have NB557_550 := zA ((by rw [hg]; exact Nat.ne_of_gt (blk_lt (g := gb550) (o := .cells #[.int .i64 0, .int .i64 0, .string (⟨#[]⟩ : ByteArray), .slice none 0 0] 76 (0, 0)) zq149) : gb557 ≠ gb550)); replace BK550 := zA (blk_below (g := gb550) (o := .cells #[.int .i64 0, .int .i64 0, .string (⟨#[]⟩ : ByteArray), .slice none 0 0] 76 (0, 0)) zq149 hb); clear hb hbox hg; have hnb11 := NB557_550.out; have hnc11 := NB550_557.out; have hcz12_0 : w10.cell? ⟨gb557, 0, none⟩ = some (.int .i64 0) := (blk_cell BK557.out 0).trans rfl; have hcz12_1 : w10.cell? ⟨gb557, 1, none⟩ = some (.int .i64 0) := (blk_cell BK557.out 1).trans rfl; have hcz12_2 : w10.cell? ⟨gb557, 2, none⟩ = some (.string (⟨#[]⟩ : ByteArray)) := (blk_cell BK557.out 2).trans rfl; have hcz12_3 : w10.cell? ⟨gb557, 3, none⟩ = some (.slice none 0 0) := (blk_cell BK557.out 3).trans rfl; have hfz12_0 := blk_frozen BK557.out 0; have hfz12_1 := blk_frozen BK557.out 1; have hfz12_2 := blk_frozen BK557.out 2; have hfz12_3 := blk_frozen BK557.out 3))
 (try simp only [Act.put, List.setIfInBounds_toArray, List.set_cons_zero, List.set_cons_succ])
 have H := HC9.out
 clear HC9
 by_cases c13 : t554 = true
 ·subst c13
  rw [if_pos rfl] at H
  have HC14 := zA H
  clear H
  go_upto_region 5 with (fail)
  have H := HC14.out
  clear HC14
  have HC15 := zA H
  clear H
  go_upto_region 7 with (fail)
  have H := HC15.out
  clear HC15
  by_cases c16 : t551 = 2
  ·rw [if_pos c16] at H
   have c16b0 : (t551 == 2) = true := beq_iff_eq.mpr c16
   have c16b1 : (t551 != 2) = false := bne_eq_false_iff_eq.mpr c16
   clear c16
   have HC17 := zA H
   clear H
   go_upto_region 8 with (fail)
   have H := HC17.out
   clear HC17
   obtain ⟨⟨t558, t559⟩, A18, H⟩ := zB H
   try dsimp only at H
   have HC19 := zA H
   clear H
   obtain ⟨Ao20, co20, eo20⟩ := Kd.R_slice HO556.out
   subst eo20
   go_upto_region 13 with (first | ((with_reducible refine gate_callee (f := 170) rfl ?_); refine goesL_ (some 33) rfl rfl Try.func170 (by kernel_rfl) rfl #[.slice Ao20 t552.length co20] rfl zq1 ?_; (with_reducible refine (impl_GetInt.calls k _ _ t552 t558 t559 _ ?side1 ?side2 A18.out).mono ?_); (case side1 => refine (Kd.R_reads' (e := 5) (base := w.heap.size) (ok := fun k_ => True) (n := t552.length) (c := co20) ?_).2.2; exact zq29); (case side2 => exact (Kd.R_reads' HO556.out).2.1); rintro e w21 ⟨rfl, hb⟩; refine ⟨_, rfl, ?_⟩; replace HO556 := zA (Kd.R_below zq29 hb); replace BK550 := zA (blk_below (g := gb550) (o := .cells #[.int .i64 0, .int .i64 0, .string (⟨#[]⟩ : ByteArray), .slice none 0 0] 76 (0, 0)) zq33 hb); replace BK557 := zA (blk_below (g := gb557) (o := .cells #[.int .i64 t551, .int .i64 0, .string (⟨#[]⟩ : ByteArray), .slice none 0 0] 76 (0, 0)) zq22 hb); replace HB := zA (below_step zq12 hb); clear hb; have hnb22 := NB557_550.out; have hnc22 := NB550_557.out; have hcz23_0 : w21.cell? ⟨gb557, 0, none⟩ = some (.int .i64 t551) := (blk_cell BK557.out 0).trans rfl; have hcz23_1 : w21.cell? ⟨gb557, 1, none⟩ = some (.int .i64 0) := (blk_cell BK557.out 1).trans rfl; have hcz23_2 : w21.cell? ⟨gb557, 2, none⟩ = some (.string (⟨#[]⟩ : ByteArray)) := (blk_cell BK557.out 2).trans rfl; have hcz23_3 : w21.cell? ⟨gb557, 3, none⟩ = some (.slice none 0 0) := (blk_cell BK557.out 3).trans rfl; have hfz23_0 := blk_frozen BK557.out 0; have hfz23_1 := blk_frozen BK557.out 1; have hfz23_2 := blk_frozen BK557.out 2; have hfz23_3 := blk_frozen BK557.out 3))
   (try simp only [Act.put, List.setIfInBounds_toArray, List.set_cons_zero, List.set_cons_succ])
   have H := HC19.out
   clear HC19
   by_cases c24 : t559 = true
   ·subst c24
    rw [if_pos rfl] at H
    obtain ⟨t560, A25, H⟩ := zB H
    try dsimp only at H
    by_cases c26 : t560 = true
    ·subst c26
     rw [if_pos rfl] at H
     have HC27 := zA H
     clear H
     have hnb28 := NB557_550.out
     have hnc28 := NB550_557.out
     have hcz29_0 : w21.cell? ⟨gb557, 0, none⟩ = some (.int .i64 t551) := (blk_cell BK557.out 0).trans rfl
     have hcz29_1 : w21.cell? ⟨gb557, 1, none⟩ = some (.int .i64 0) := (blk_cell BK557.out 1).trans rfl
     have hcz29_2 : w21.cell? ⟨gb557, 2, none⟩ = some (.string (⟨#[]⟩ : ByteArray)) := (blk_cell BK557.out 2).trans rfl
     have hcz29_3 : w21.cell? ⟨gb557, 3, none⟩ = some (.slice none 0 0) := (blk_cell BK557.out 3).trans rfl
     have hfz29_0 := blk_frozen BK557.out 0
     have hfz29_1 := blk_frozen BK557.out 1
     have hfz29_2 := blk_frozen BK557.out 2
     have hfz29_3 := blk_frozen BK557.out 3
     go_upto_region 15 with (first | (go_at_call 90; (refine (impl_ValOk.calls k t551 t558 (⟨#[]⟩ : ByteArray) _ _ ([] : List Int) true _ ?side1 ?side2 A25.out).mono ?_); (case side1 => exact Kd.C_nil _ _); (case side2 => exact Nat.le_refl _); rintro e w30 ⟨rfl, hb⟩; replace HO556 := zA (Kd.R_below zq177 hb); replace BK550 := zA (blk_below (g := gb550) (o := .cells #[.int .i64 0, .int .i64 0, .string (⟨#[]⟩ : ByteArray), .slice none 0 0] 76 (0, 0)) zq101 hb); replace BK557 := zA (blk_below (g := gb557) (o := .cells #[.int .i64 t551, .int .i64 t558, .string (⟨#[]⟩ : ByteArray), .slice none 0 0] 76 (0, 0)) zq152 hb); replace HB := zA (below_step zq12 hb); clear hb))
     (try simp only [Act.put, List.setIfInBounds_toArray, List.set_cons_zero, List.set_cons_succ])
     have H := HC27.out
     clear HC27
     simp only [Option.some.injEq, Prod.mk.injEq] at H
     obtain ⟨rfl, rfl, rfl, rfl, rfl, rfl⟩ := H
     have hnb31 := NB557_550.out
     have hnc31 := NB550_557.out
     have hcz32_0 : w30.cell? ⟨gb557, 0, none⟩ = some (.int .i64 t551) := (blk_cell BK557.out 0).trans rfl
     have hcz32_1 : w30.cell? ⟨gb557, 1, none⟩ = some (.int .i64 t558) := (blk_cell BK557.out 1).trans rfl
     have hcz32_2 : w30.cell? ⟨gb557, 2, none⟩ = some (.string (⟨#[]⟩ : ByteArray)) := (blk_cell BK557.out 2).trans rfl
     have hcz32_3 : w30.cell? ⟨gb557, 3, none⟩ = some (.slice none 0 0) := (blk_cell BK557.out 3).trans rfl
     have hfz32_0 := blk_frozen BK557.out 0
     have hfz32_1 := blk_frozen BK557.out 1
     have hfz32_2 := blk_frozen BK557.out 2
     have hfz32_3 := blk_frozen BK557.out 3
     have hcz33_0 : w30.cell? ⟨gb550, 0, none⟩ = some (.int .i64 0) := (blk_cell BK550.out 0).trans rfl
     have hcz33_1 : w30.cell? ⟨gb550, 1, none⟩ = some (.int .i64 0) := (blk_cell BK550.out 1).trans rfl
     have hcz33_2 : w30.cell? ⟨gb550, 2, none⟩ = some (.string (⟨#[]⟩ : ByteArray)) := (blk_cell BK550.out 2).trans rfl
     have hcz33_3 : w30.cell? ⟨gb550, 3, none⟩ = some (.slice none 0 0) := (blk_cell BK550.out 3).trans rfl
     have hfz33_0 := blk_frozen BK550.out 0
     have hfz33_1 := blk_frozen BK550.out 1
     have hfz33_2 := blk_frozen BK550.out 2
     have hfz33_3 := blk_frozen BK550.out 3
     go_wp2
     refine bodyPost_ret (results_ctt rfl _ _ gb550 76 #[.int .i64 t551, .int .i64 t558, .string (⟨#[]⟩ : ByteArray), .slice none 0 0] (0, 0) _ rfl (by (with_reducible repeat (first | refine blk_drewN ?_ _ | refine blk_drew ?_ | refine blk_alloc ?_ _)); refine blk_put (cs := #[.int .i64 t551, .int .i64 t558, .string (⟨#[]⟩ : ByteArray), .slice none 0 0]) ?_ 3 _ rfl; (with_reducible repeat (first | refine blk_drewN ?_ _ | refine blk_drew ?_ | refine blk_alloc ?_ _)); refine blk_put (cs := #[.int .i64 t551, .int .i64 t558, .string (⟨#[]⟩ : ByteArray), .slice none 0 0]) ?_ 2 _ rfl; (with_reducible repeat (first | refine blk_drewN ?_ _ | refine blk_drew ?_ | refine blk_alloc ?_ _)); refine blk_put (cs := #[.int .i64 t551, .int .i64 0, .string (⟨#[]⟩ : ByteArray), .slice none 0 0]) ?_ 1 _ rfl; (with_reducible repeat (first | refine blk_drewN ?_ _ | refine blk_drew ?_ | refine blk_alloc ?_ _)); refine blk_put (cs := #[.int .i64 0, .int .i64 0, .string (⟨#[]⟩ : ByteArray), .slice none 0 0]) ?_ 0 _ rfl; (with_reducible repeat (first | refine blk_drewN ?_ _ | refine blk_drew ?_ | refine blk_alloc ?_ _)); exact BK550.out) Try.underlying76 rfl (by kernel_rfl)) rfl ?_
     exact ⟨_, zq2, zq6, zq12⟩
    ·replace c26 := Bool.eq_false_iff.mpr c26
     subst c26
     rw [if_neg zF] at H
     have HC34 := zA H
     clear H
     have hnb35 := NB557_550.out
     have hnc35 := NB550_557.out
     have hcz36_0 : w21.cell? ⟨gb557, 0, none⟩ = some (.int .i64 t551) := (blk_cell BK557.out 0).trans rfl
     have hcz36_1 : w21.cell? ⟨gb557, 1, none⟩ = some (.int .i64 0) := (blk_cell BK557.out 1).trans rfl
     have hcz36_2 : w21.cell? ⟨gb557, 2, none⟩ = some (.string (⟨#[]⟩ : ByteArray)) := (blk_cell BK557.out 2).trans rfl
     have hcz36_3 : w21.cell? ⟨gb557, 3, none⟩ = some (.slice none 0 0) := (blk_cell BK557.out 3).trans rfl
     have hfz36_0 := blk_frozen BK557.out 0
     have hfz36_1 := blk_frozen BK557.out 1
     have hfz36_2 := blk_frozen BK557.out 2
     have hfz36_3 := blk_frozen BK557.out 3
     go_upto_region 14 with (first | (go_at_call 90; (refine (impl_ValOk.calls k t551 t558 (⟨#[]⟩ : ByteArray) _ _ ([] : List Int) false _ ?side1 ?side2 A25.out).mono ?_); (case side1 => exact Kd.C_nil _ _); (case side2 => exact Nat.le_refl _); rintro e w37 ⟨rfl, hb⟩; replace HO556 := zA (Kd.R_below zq177 hb); replace BK550 := zA (blk_below (g := gb550) (o := .cells #[.int .i64 0, .int .i64 0, .string (⟨#[]⟩ : ByteArray), .slice none 0 0] 76 (0, 0)) zq101 hb); replace BK557 := zA (blk_below (g := gb557) (o := .cells #[.int .i64 t551, .int .i64 t558, .string (⟨#[]⟩ : ByteArray), .slice none 0 0] 76 (0, 0)) zq152 hb); replace HB := zA (below_step zq12 hb); clear hb))
     (try simp only [Act.put, List.setIfInBounds_toArray, List.set_cons_zero, List.set_cons_succ])
     have H := HC34.out
     clear HC34
     simp only [Option.some.injEq, Prod.mk.injEq] at H
     obtain ⟨rfl, rfl, rfl, rfl, rfl, rfl⟩ := H
     have hnb38 := NB550_557.out
     have hnc38 := NB557_550.out
     have hcz39_0 : w37.cell? ⟨gb550, 0, none⟩ = some (.int .i64 0) := (blk_cell BK550.out 0).trans rfl
     have hcz39_1 : w37.cell? ⟨gb550, 1, none⟩ = some (.int .i64 0) := (blk_cell BK550.out 1).trans rfl
     have hcz39_2 : w37.cell? ⟨gb550, 2, none⟩ = some (.string (⟨#[]⟩ : ByteArray)) := (blk_cell BK550.out 2).trans rfl
     have hcz39_3 : w37.cell? ⟨gb550, 3, none⟩ = some (.slice none 0 0) := (blk_cell BK550.out 3).trans rfl
     have hfz39_0 := blk_frozen BK550.out 0
     have hfz39_1 := blk_frozen BK550.out 1
     have hfz39_2 := blk_frozen BK550.out 2
     have hfz39_3 := blk_frozen BK550.out 3
     go_wp2
     refine bodyPost_ret (results_ctt rfl _ _ gb550 76 #[.int .i64 0, .int .i64 0, .string (⟨#[]⟩ : ByteArray), .slice none 0 0] (0, 0) _ rfl zq24 Try.underlying76 rfl (by kernel_rfl)) rfl ?_
     exact ⟨_, zq2, zq6, zq12⟩
   ·replace c24 := Bool.eq_false_iff.mpr c24
    subst c24
    rw [if_neg zF] at H
    have HC40 := zA H
    clear H
    go_upto_region 14 with (fail)
    have H := HC40.out
    clear HC40
    simp only [Option.some.injEq, Prod.mk.injEq] at H
    obtain ⟨rfl, rfl, rfl, rfl, rfl, rfl⟩ := H
    have hnb41 := NB550_557.out
    have hnc41 := NB557_550.out
    have hcz42_0 : w21.cell? ⟨gb550, 0, none⟩ = some (.int .i64 0) := (blk_cell BK550.out 0).trans rfl
    have hcz42_1 : w21.cell? ⟨gb550, 1, none⟩ = some (.int .i64 0) := (blk_cell BK550.out 1).trans rfl
    have hcz42_2 : w21.cell? ⟨gb550, 2, none⟩ = some (.string (⟨#[]⟩ : ByteArray)) := (blk_cell BK550.out 2).trans rfl
    have hcz42_3 : w21.cell? ⟨gb550, 3, none⟩ = some (.slice none 0 0) := (blk_cell BK550.out 3).trans rfl
    have hfz42_0 := blk_frozen BK550.out 0
    have hfz42_1 := blk_frozen BK550.out 1
    have hfz42_2 := blk_frozen BK550.out 2
    have hfz42_3 := blk_frozen BK550.out 3
    go_wp2
    refine bodyPost_ret (results_ctt rfl _ _ gb550 76 #[.int .i64 0, .int .i64 0, .string (⟨#[]⟩ : ByteArray), .slice none 0 0] (0, 0) _ rfl zq67 Try.underlying76 rfl (by kernel_rfl)) rfl ?_
    exact ⟨_, zq2, zq6, zq12⟩
  ·rw [if_neg c16] at H
   have c16b0 : (t551 == 2) = false := beq_eq_false_iff_ne.mpr c16
   have c16b1 : (t551 != 2) = true := bne_iff_ne.mpr c16
   have HC43 := zA H
   clear H
   go_upto_region 9 with (fail)
   have H := HC43.out
   clear HC43
   by_cases c44 : t551 = 4
   ·rw [if_pos c44] at H
    have c44b0 : (t551 == 4) = true := beq_iff_eq.mpr c44
    have c44b1 : (t551 != 4) = false := bne_eq_false_iff_eq.mpr c44
    clear c44
    have HC45 := zA H
    clear H
    go_upto_region 10 with (fail)
    have H := HC45.out
    clear HC45
    have HC46 := zA H
    clear H
    have hcv47 := own_string (P := Try.prog) Try.underlying22 Try.underlying5 Try.underlying9 (Kd.own_of_R (Kd.R_far (p := ⟨gb557, 3, none⟩) (Kd.R_far (p := ⟨gb557, 2, none⟩) (Kd.R_far (p := ⟨gb557, 1, none⟩) (Kd.R_far (p := ⟨gb557, 0, none⟩) (Kd.R_types HO556.out BK557.out zq39) (fun _ hk => hk.2) (.int .i64 t551)) (fun _ hk => hk.2) (.int .i64 0)) (fun _ hk => hk.2) (.string (⟨#[]⟩ : ByteArray))) (fun _ hk => hk.2) (.slice none 0 0)))
    have hnb48 := NB557_550.out
    have hnc48 := NB550_557.out
    have hcz49_0 : w10.cell? ⟨gb557, 0, none⟩ = some (.int .i64 0) := (blk_cell BK557.out 0).trans rfl
    have hcz49_1 : w10.cell? ⟨gb557, 1, none⟩ = some (.int .i64 0) := (blk_cell BK557.out 1).trans rfl
    have hcz49_2 : w10.cell? ⟨gb557, 2, none⟩ = some (.string (⟨#[]⟩ : ByteArray)) := (blk_cell BK557.out 2).trans rfl
    have hcz49_3 : w10.cell? ⟨gb557, 3, none⟩ = some (.slice none 0 0) := (blk_cell BK557.out 3).trans rfl
    have hfz49_0 := blk_frozen BK557.out 0
    have hfz49_1 := blk_frozen BK557.out 1
    have hfz49_2 := blk_frozen BK557.out 2
    have hfz49_3 := blk_frozen BK557.out 3
    go_upto_region 13 with (fail)
    have H := HC46.out
    clear HC46
    obtain ⟨t561, A50, H⟩ := zB H
    try dsimp only at H
    by_cases c51 : t561 = true
    ·subst c51
     rw [if_pos rfl] at H
     have HC52 := zA H
     clear H
     have hnb53 := NB557_550.out
     have hnc53 := NB550_557.out
     have hcz54_0 : w10.cell? ⟨gb557, 0, none⟩ = some (.int .i64 0) := (blk_cell BK557.out 0).trans rfl
     have hcz54_1 : w10.cell? ⟨gb557, 1, none⟩ = some (.int .i64 0) := (blk_cell BK557.out 1).trans rfl
     have hcz54_2 : w10.cell? ⟨gb557, 2, none⟩ = some (.string (⟨#[]⟩ : ByteArray)) := (blk_cell BK557.out 2).trans rfl
     have hcz54_3 : w10.cell? ⟨gb557, 3, none⟩ = some (.slice none 0 0) := (blk_cell BK557.out 3).trans rfl
     have hfz54_0 := blk_frozen BK557.out 0
     have hfz54_1 := blk_frozen BK557.out 1
     have hfz54_2 := blk_frozen BK557.out 2
     have hfz54_3 := blk_frozen BK557.out 3
     go_upto_region 15 with (first | (go_at_call 90; (refine (impl_ValOk.calls k t551 0 (strOfNums t552) _ _ ([] : List Int) true _ ?side1 ?side2 A50.out).mono ?_); (case side1 => exact Kd.C_nil _ _); (case side2 => exact Nat.le_refl _); rintro e w55 ⟨rfl, hb⟩; replace HO556 := zA (Kd.R_below zq124 hb); replace BK550 := zA (blk_below (g := gb550) (o := .cells #[.int .i64 0, .int .i64 0, .string (⟨#[]⟩ : ByteArray), .slice none 0 0] 76 (0, 0)) zq96 hb); replace BK557 := zA (blk_below (g := gb557) (o := .cells #[.int .i64 t551, .int .i64 0, .string (strOfNums t552), .slice none 0 0] 76 (0, 0)) zq58 hb); replace HB := zA (below_step zq12 hb); clear hb))
     (try simp only [Act.put, List.setIfInBounds_toArray, List.set_cons_zero, List.set_cons_succ])
     have H := HC52.out
     clear HC52
     simp only [Option.some.injEq, Prod.mk.injEq] at H
     obtain ⟨rfl, rfl, rfl, rfl, rfl, rfl⟩ := H
     have hnb56 := NB557_550.out
     have hnc56 := NB550_557.out
     have hcz57_0 : w55.cell? ⟨gb557, 0, none⟩ = some (.int .i64 t551) := (blk_cell BK557.out 0).trans rfl
     have hcz57_1 : w55.cell? ⟨gb557, 1, none⟩ = some (.int .i64 0) := (blk_cell BK557.out 1).trans rfl
     have hcz57_2 : w55.cell? ⟨gb557, 2, none⟩ = some (.string (strOfNums t552)) := (blk_cell BK557.out 2).trans rfl
     have hcz57_3 : w55.cell? ⟨gb557, 3, none⟩ = some (.slice none 0 0) := (blk_cell BK557.out 3).trans rfl
     have hfz57_0 := blk_frozen BK557.out 0
     have hfz57_1 := blk_frozen BK557.out 1
     have hfz57_2 := blk_frozen BK557.out 2
     have hfz57_3 := blk_frozen BK557.out 3
     have hcz58_0 : w55.cell? ⟨gb550, 0, none⟩ = some (.int .i64 0) := (blk_cell BK550.out 0).trans rfl
     have hcz58_1 : w55.cell? ⟨gb550, 1, none⟩ = some (.int .i64 0) := (blk_cell BK550.out 1).trans rfl
     have hcz58_2 : w55.cell? ⟨gb550, 2, none⟩ = some (.string (⟨#[]⟩ : ByteArray)) := (blk_cell BK550.out 2).trans rfl
     have hcz58_3 : w55.cell? ⟨gb550, 3, none⟩ = some (.slice none 0 0) := (blk_cell BK550.out 3).trans rfl
     have hfz58_0 := blk_frozen BK550.out 0
     have hfz58_1 := blk_frozen BK550.out 1
     have hfz58_2 := blk_frozen BK550.out 2
     have hfz58_3 := blk_frozen BK550.out 3
     go_wp2
     refine bodyPost_ret (results_ctt rfl _ _ gb550 76 #[.int .i64 t551, .int .i64 0, .string (strOfNums t552), .slice none 0 0] (0, 0) _ rfl (by (with_reducible repeat (first | refine blk_drewN ?_ _ | refine blk_drew ?_ | refine blk_alloc ?_ _)); refine blk_put (cs := #[.int .i64 t551, .int .i64 0, .string (strOfNums t552), .slice none 0 0]) ?_ 3 _ rfl; (with_reducible repeat (first | refine blk_drewN ?_ _ | refine blk_drew ?_ | refine blk_alloc ?_ _)); refine blk_put (cs := #[.int .i64 t551, .int .i64 0, .string (⟨#[]⟩ : ByteArray), .slice none 0 0]) ?_ 2 _ rfl; (with_reducible repeat (first | refine blk_drewN ?_ _ | refine blk_drew ?_ | refine blk_alloc ?_ _)); refine blk_put (cs := #[.int .i64 t551, .int .i64 0, .string (⟨#[]⟩ : ByteArray), .slice none 0 0]) ?_ 1 _ rfl; (with_reducible repeat (first | refine blk_drewN ?_ _ | refine blk_drew ?_ | refine blk_alloc ?_ _)); refine blk_put (cs := #[.int .i64 0, .int .i64 0, .string (⟨#[]⟩ : ByteArray), .slice none 0 0]) ?_ 0 _ rfl; (with_reducible repeat (first | refine blk_drewN ?_ _ | refine blk_drew ?_ | refine blk_alloc ?_ _)); exact BK550.out) Try.underlying76 rfl (by kernel_rfl)) rfl ?_
     exact ⟨_, zq2, zq6, zq12⟩
    ·replace c51 := Bool.eq_false_iff.mpr c51
     subst c51
     rw [if_neg zF] at H
     have HC59 := zA H
     clear H
     have hnb60 := NB557_550.out
     have hnc60 := NB550_557.out
     have hcz61_0 : w10.cell? ⟨gb557, 0, none⟩ = some (.int .i64 0) := (blk_cell BK557.out 0).trans rfl
     have hcz61_1 : w10.cell? ⟨gb557, 1, none⟩ = some (.int .i64 0) := (blk_cell BK557.out 1).trans rfl
     have hcz61_2 : w10.cell? ⟨gb557, 2, none⟩ = some (.string (⟨#[]⟩ : ByteArray)) := (blk_cell BK557.out 2).trans rfl
     have hcz61_3 : w10.cell? ⟨gb557, 3, none⟩ = some (.slice none 0 0) := (blk_cell BK557.out 3).trans rfl
     have hfz61_0 := blk_frozen BK557.out 0
     have hfz61_1 := blk_frozen BK557.out 1
     have hfz61_2 := blk_frozen BK557.out 2
     have hfz61_3 := blk_frozen BK557.out 3
     go_upto_region 14 with (first | (go_at_call 90; (refine (impl_ValOk.calls k t551 0 (strOfNums t552) _ _ ([] : List Int) false _ ?side1 ?side2 A50.out).mono ?_); (case side1 => exact Kd.C_nil _ _); (case side2 => exact Nat.le_refl _); rintro e w62 ⟨rfl, hb⟩; replace HO556 := zA (Kd.R_below zq124 hb); replace BK550 := zA (blk_below (g := gb550) (o := .cells #[.int .i64 0, .int .i64 0, .string (⟨#[]⟩ : ByteArray), .slice none 0 0] 76 (0, 0)) zq96 hb); replace BK557 := zA (blk_below (g := gb557) (o := .cells #[.int .i64 t551, .int .i64 0, .string (strOfNums t552), .slice none 0 0] 76 (0, 0)) zq58 hb); replace HB := zA (below_step zq12 hb); clear hb))
     (try simp only [Act.put, List.setIfInBounds_toArray, List.set_cons_zero, List.set_cons_succ])
     have H := HC59.out
     clear HC59
     simp only [Option.some.injEq, Prod.mk.injEq] at H
     obtain ⟨rfl, rfl, rfl, rfl, rfl, rfl⟩ := H
     have hnb63 := NB550_557.out
     have hnc63 := NB557_550.out
     have hcz64_0 : w62.cell? ⟨gb550, 0, none⟩ = some (.int .i64 0) := (blk_cell BK550.out 0).trans rfl
     have hcz64_1 : w62.cell? ⟨gb550, 1, none⟩ = some (.int .i64 0) := (blk_cell BK550.out 1).trans rfl
     have hcz64_2 : w62.cell? ⟨gb550, 2, none⟩ = some (.string (⟨#[]⟩ : ByteArray)) := (blk_cell BK550.out 2).trans rfl
     have hcz64_3 : w62.cell? ⟨gb550, 3, none⟩ = some (.slice none 0 0) := (blk_cell BK550.out 3).trans rfl
     have hfz64_0 := blk_frozen BK550.out 0
     have hfz64_1 := blk_frozen BK550.out 1
     have hfz64_2 := blk_frozen BK550.out 2
     have hfz64_3 := blk_frozen BK550.out 3
     go_wp2
     refine bodyPost_ret (results_ctt rfl _ _ gb550 76 #[.int .i64 0, .int .i64 0, .string (⟨#[]⟩ : ByteArray), .slice none 0 0] (0, 0) _ rfl zq24 Try.underlying76 rfl (by kernel_rfl)) rfl ?_
     exact ⟨_, zq2, zq6, zq12⟩
   ·rw [if_neg c44] at H
    have c44b0 : (t551 == 4) = false := beq_eq_false_iff_ne.mpr c44
    have c44b1 : (t551 != 4) = true := bne_iff_ne.mpr c44
    have HC65 := zA H
    clear H
    go_upto_region 11 with (fail)
    have H := HC65.out
    clear HC65
    by_cases c66 : t551 = 6
    ·rw [if_pos c66] at H
     have c66b0 : (t551 == 6) = true := beq_iff_eq.mpr c66
     have c66b1 : (t551 != 6) = false := bne_eq_false_iff_eq.mpr c66
     clear c66
     have HC67 := zA H
     clear H
     go_upto_region 12 with (fail)
     have H := HC67.out
     clear HC67
     obtain ⟨⟨t562, t563⟩, A68, H⟩ := zB H
     try dsimp only at H
     have HC69 := zA H
     clear H
     obtain ⟨Ao70, co70, eo70⟩ := Kd.R_slice HO556.out
     subst eo70
     go_upto_region 13 with (first | ((with_reducible refine gate_callee (f := 171) rfl ?_); refine goesL_ (some 46) rfl rfl Try.func171 (by kernel_rfl) rfl #[.slice Ao70 t552.length co70] rfl zq1 ?_; (with_reducible refine (impl_GetOid.calls k _ _ t552 t562 t563 _ ?side1 ?side2 A68.out).mono ?_); (case side1 => refine (Kd.R_reads' (e := 5) (base := w.heap.size) (ok := fun k_ => True) (n := t552.length) (c := co70) ?_).2.2; exact zq29); (case side2 => exact (Kd.R_reads' HO556.out).2.1); rintro e w71 ⟨v564, rfl, ho0, hb⟩; refine ⟨_, rfl, ?_⟩; replace HO556 := zA (Kd.R_below zq29 hb); have HO565 := zA (Kd.R_lower ho0 (below_size zq12)); replace BK550 := zA (blk_below (g := gb550) (o := .cells #[.int .i64 0, .int .i64 0, .string (⟨#[]⟩ : ByteArray), .slice none 0 0] 76 (0, 0)) zq33 hb); replace BK557 := zA (blk_below (g := gb557) (o := .cells #[.int .i64 t551, .int .i64 0, .string (⟨#[]⟩ : ByteArray), .slice none 0 0] 76 (0, 0)) zq22 hb); replace HB := zA (below_step zq12 hb); clear hb ho0; obtain ⟨Ao72, co72, eo72⟩ := Kd.R_slice HO565.out; subst eo72; have hnb73 := NB557_550.out; have hnc73 := NB550_557.out; have hcz74_0 : w71.cell? ⟨gb557, 0, none⟩ = some (.int .i64 t551) := (blk_cell BK557.out 0).trans rfl; have hcz74_1 : w71.cell? ⟨gb557, 1, none⟩ = some (.int .i64 0) := (blk_cell BK557.out 1).trans rfl; have hcz74_2 : w71.cell? ⟨gb557, 2, none⟩ = some (.string (⟨#[]⟩ : ByteArray)) := (blk_cell BK557.out 2).trans rfl; have hcz74_3 : w71.cell? ⟨gb557, 3, none⟩ = some (.slice none 0 0) := (blk_cell BK557.out 3).trans rfl; have hfz74_0 := blk_frozen BK557.out 0; have hfz74_1 := blk_frozen BK557.out 1; have hfz74_2 := blk_frozen BK557.out 2; have hfz74_3 := blk_frozen BK557.out 3))
     (try simp only [Act.put, List.setIfInBounds_toArray, List.set_cons_zero, List.set_cons_succ])
     have H := HC69.out
     clear HC69
     by_cases c75 : t563 = true
     ·subst c75
      rw [if_pos rfl] at H
      obtain ⟨t566, A76, H⟩ := zB H
      try dsimp only at H
      by_cases c77 : t566 = true
      ·subst c77
       rw [if_pos rfl] at H
       have HC78 := zA H
       clear H
       have hnb79 := NB557_550.out
       have hnc79 := NB550_557.out
       have hcz80_0 : w71.cell? ⟨gb557, 0, none⟩ = some (.int .i64 t551) := (blk_cell BK557.out 0).trans rfl
       have hcz80_1 : w71.cell? ⟨gb557, 1, none⟩ = some (.int .i64 0) := (blk_cell BK557.out 1).trans rfl
       have hcz80_2 : w71.cell? ⟨gb557, 2, none⟩ = some (.string (⟨#[]⟩ : ByteArray)) := (blk_cell BK557.out 2).trans rfl
       have hcz80_3 : w71.cell? ⟨gb557, 3, none⟩ = some (.slice none 0 0) := (blk_cell BK557.out 3).trans rfl
       have hfz80_0 := blk_frozen BK557.out 0
       have hfz80_1 := blk_frozen BK557.out 1
       have hfz80_2 := blk_frozen BK557.out 2
       have hfz80_3 := blk_frozen BK557.out 3
       go_upto_region 15 with (first | (go_at_call 90; (with_reducible refine (impl_ValOk.calls k t551 0 (⟨#[]⟩ : ByteArray) _ _ t562 true _ ?side1 ?side2 A76.out).mono ?_); (case side1 => refine (Kd.R_reads' (e := 3) (base := w.heap.size) (ok := fun k_ => True) (n := t562.length) (c := co72) ?_).2.2; exact zq99); (case side2 => exact (Kd.R_reads' HO565.out).2.1); rintro e w81 ⟨rfl, hb⟩; replace HO556 := zA (Kd.R_below zq175 hb); replace HO565 := zA (Kd.R_below zq99 hb); replace BK550 := zA (blk_below (g := gb550) (o := .cells #[.int .i64 0, .int .i64 0, .string (⟨#[]⟩ : ByteArray), .slice none 0 0] 76 (0, 0)) zq101 hb); replace BK557 := zA (blk_below (g := gb557) (o := .cells #[.int .i64 t551, .int .i64 0, .string (⟨#[]⟩ : ByteArray), .slice Ao72 t562.length co72] 76 (0, 0)) zq153 hb); replace HB := zA (below_step zq12 hb); clear hb))
       (try simp only [Act.put, List.setIfInBounds_toArray, List.set_cons_zero, List.set_cons_succ])
       have H := HC78.out
       clear HC78
       simp only [Option.some.injEq, Prod.mk.injEq] at H
       obtain ⟨rfl, rfl, rfl, rfl, rfl, rfl⟩ := H
       have hnb82 := NB557_550.out
       have hnc82 := NB550_557.out
       have hcz83_0 : w81.cell? ⟨gb557, 0, none⟩ = some (.int .i64 t551) := (blk_cell BK557.out 0).trans rfl
       have hcz83_1 : w81.cell? ⟨gb557, 1, none⟩ = some (.int .i64 0) := (blk_cell BK557.out 1).trans rfl
       have hcz83_2 : w81.cell? ⟨gb557, 2, none⟩ = some (.string (⟨#[]⟩ : ByteArray)) := (blk_cell BK557.out 2).trans rfl
       have hcz83_3 : w81.cell? ⟨gb557, 3, none⟩ = some (.slice Ao72 t562.length co72) := (blk_cell BK557.out 3).trans rfl
       have hfz83_0 := blk_frozen BK557.out 0
       have hfz83_1 := blk_frozen BK557.out 1
       have hfz83_2 := blk_frozen BK557.out 2
       have hfz83_3 := blk_frozen BK557.out 3
       have hcz84_0 : w81.cell? ⟨gb550, 0, none⟩ = some (.int .i64 0) := (blk_cell BK550.out 0).trans rfl
       have hcz84_1 : w81.cell? ⟨gb550, 1, none⟩ = some (.int .i64 0) := (blk_cell BK550.out 1).trans rfl
       have hcz84_2 : w81.cell? ⟨gb550, 2, none⟩ = some (.string (⟨#[]⟩ : ByteArray)) := (blk_cell BK550.out 2).trans rfl
       have hcz84_3 : w81.cell? ⟨gb550, 3, none⟩ = some (.slice none 0 0) := (blk_cell BK550.out 3).trans rfl
       have hfz84_0 := blk_frozen BK550.out 0
       have hfz84_1 := blk_frozen BK550.out 1
       have hfz84_2 := blk_frozen BK550.out 2
       have hfz84_3 := blk_frozen BK550.out 3
       go_wp2
       refine bodyPost_ret (results_ctt rfl _ _ gb550 76 #[.int .i64 t551, .int .i64 0, .string (⟨#[]⟩ : ByteArray), .slice Ao72 t562.length co72] (0, 0) _ rfl zq73 Try.underlying76 rfl (by kernel_rfl)) rfl ?_
       exact ⟨_, zq2, (by (with_reducible repeat (first | apply Kd.R_alloc | apply Kd.R_drewN | apply Kd.R_drew)); exact Kd.R_mono (Kd.R_far (p := ⟨gb550, 3, none⟩) (Kd.R_far (p := ⟨gb550, 2, none⟩) (Kd.R_far (p := ⟨gb550, 1, none⟩) (Kd.R_far (p := ⟨gb550, 0, none⟩) (Kd.R_types HO565.out BK550.out zq39) (fun _ hk => hk.2) (.int .i64 t551)) (fun _ hk => hk.2) (.int .i64 0)) (fun _ hk => hk.2) (.string (⟨#[]⟩ : ByteArray))) (fun _ hk => hk.2) (.slice Ao72 t562.length co72)) (fun _ hk => trivial)), zq12⟩
      ·replace c77 := Bool.eq_false_iff.mpr c77
       subst c77
       rw [if_neg zF] at H
       have HC85 := zA H
       clear H
       have hnb86 := NB557_550.out
       have hnc86 := NB550_557.out
       have hcz87_0 : w71.cell? ⟨gb557, 0, none⟩ = some (.int .i64 t551) := (blk_cell BK557.out 0).trans rfl
       have hcz87_1 : w71.cell? ⟨gb557, 1, none⟩ = some (.int .i64 0) := (blk_cell BK557.out 1).trans rfl
       have hcz87_2 : w71.cell? ⟨gb557, 2, none⟩ = some (.string (⟨#[]⟩ : ByteArray)) := (blk_cell BK557.out 2).trans rfl
       have hcz87_3 : w71.cell? ⟨gb557, 3, none⟩ = some (.slice none 0 0) := (blk_cell BK557.out 3).trans rfl
       have hfz87_0 := blk_frozen BK557.out 0
       have hfz87_1 := blk_frozen BK557.out 1
       have hfz87_2 := blk_frozen BK557.out 2
       have hfz87_3 := blk_frozen BK557.out 3
       go_upto_region 14 with (first | (go_at_call 90; (with_reducible refine (impl_ValOk.calls k t551 0 (⟨#[]⟩ : ByteArray) _ _ t562 false _ ?side1 ?side2 A76.out).mono ?_); (case side1 => refine (Kd.R_reads' (e := 3) (base := w.heap.size) (ok := fun k_ => True) (n := t562.length) (c := co72) ?_).2.2; exact zq99); (case side2 => exact (Kd.R_reads' HO565.out).2.1); rintro e w88 ⟨rfl, hb⟩; replace HO556 := zA (Kd.R_below zq175 hb); replace HO565 := zA (Kd.R_below zq99 hb); replace BK550 := zA (blk_below (g := gb550) (o := .cells #[.int .i64 0, .int .i64 0, .string (⟨#[]⟩ : ByteArray), .slice none 0 0] 76 (0, 0)) zq101 hb); replace BK557 := zA (blk_below (g := gb557) (o := .cells #[.int .i64 t551, .int .i64 0, .string (⟨#[]⟩ : ByteArray), .slice Ao72 t562.length co72] 76 (0, 0)) zq153 hb); replace HB := zA (below_step zq12 hb); clear hb))
       (try simp only [Act.put, List.setIfInBounds_toArray, List.set_cons_zero, List.set_cons_succ])
       have H := HC85.out
       clear HC85
       simp only [Option.some.injEq, Prod.mk.injEq] at H
       obtain ⟨rfl, rfl, rfl, rfl, rfl, rfl⟩ := H
       have hnb89 := NB550_557.out
       have hnc89 := NB557_550.out
       have hcz90_0 : w88.cell? ⟨gb550, 0, none⟩ = some (.int .i64 0) := (blk_cell BK550.out 0).trans rfl
       have hcz90_1 : w88.cell? ⟨gb550, 1, none⟩ = some (.int .i64 0) := (blk_cell BK550.out 1).trans rfl
       have hcz90_2 : w88.cell? ⟨gb550, 2, none⟩ = some (.string (⟨#[]⟩ : ByteArray)) := (blk_cell BK550.out 2).trans rfl
       have hcz90_3 : w88.cell? ⟨gb550, 3, none⟩ = some (.slice none 0 0) := (blk_cell BK550.out 3).trans rfl
       have hfz90_0 := blk_frozen BK550.out 0
       have hfz90_1 := blk_frozen BK550.out 1
       have hfz90_2 := blk_frozen BK550.out 2
       have hfz90_3 := blk_frozen BK550.out 3
       go_wp2
       refine bodyPost_ret (results_ctt rfl _ _ gb550 76 #[.int .i64 0, .int .i64 0, .string (⟨#[]⟩ : ByteArray), .slice none 0 0] (0, 0) _ rfl zq24 Try.underlying76 rfl (by kernel_rfl)) rfl ?_
       exact ⟨_, zq2, zq6, zq12⟩
     ·replace c75 := Bool.eq_false_iff.mpr c75
      subst c75
      rw [if_neg zF] at H
      have HC91 := zA H
      clear H
      go_upto_region 14 with (fail)
      have H := HC91.out
      clear HC91
      simp only [Option.some.injEq, Prod.mk.injEq] at H
      obtain ⟨rfl, rfl, rfl, rfl, rfl, rfl⟩ := H
      have hnb92 := NB550_557.out
      have hnc92 := NB557_550.out
      have hcz93_0 : w71.cell? ⟨gb550, 0, none⟩ = some (.int .i64 0) := (blk_cell BK550.out 0).trans rfl
      have hcz93_1 : w71.cell? ⟨gb550, 1, none⟩ = some (.int .i64 0) := (blk_cell BK550.out 1).trans rfl
      have hcz93_2 : w71.cell? ⟨gb550, 2, none⟩ = some (.string (⟨#[]⟩ : ByteArray)) := (blk_cell BK550.out 2).trans rfl
      have hcz93_3 : w71.cell? ⟨gb550, 3, none⟩ = some (.slice none 0 0) := (blk_cell BK550.out 3).trans rfl
      have hfz93_0 := blk_frozen BK550.out 0
      have hfz93_1 := blk_frozen BK550.out 1
      have hfz93_2 := blk_frozen BK550.out 2
      have hfz93_3 := blk_frozen BK550.out 3
      go_wp2
      refine bodyPost_ret (results_ctt rfl _ _ gb550 76 #[.int .i64 0, .int .i64 0, .string (⟨#[]⟩ : ByteArray), .slice none 0 0] (0, 0) _ rfl zq67 Try.underlying76 rfl (by kernel_rfl)) rfl ?_
      exact ⟨_, zq2, zq6, zq12⟩
    ·rw [if_neg c66] at H
     have c66b0 : (t551 == 6) = false := beq_eq_false_iff_ne.mpr c66
     have c66b1 : (t551 != 6) = true := bne_iff_ne.mpr c66
     have HC94 := zA H
     clear H
     go_upto_region 6 with (fail)
     have H := HC94.out
     clear HC94
     have HC95 := zA H
     clear H
     obtain ⟨Ao96, co96, eo96⟩ := Kd.R_slice HO556.out
     subst eo96
     go_upto_region 13 with (fail)
     have H := HC95.out
     clear HC95
     by_cases c97 : ((t552.length : Int) = 0)
     ·rw [if_pos c97] at H
      have c97b0 : ((t552.length : Int) == 0) = true := beq_iff_eq.mpr c97
      have c97b1 : ((t552.length : Int) != 0) = false := bne_eq_false_iff_eq.mpr c97
      clear c97
      obtain ⟨t567, A98, H⟩ := zB H
      try dsimp only at H
      by_cases c99 : t567 = true
      ·subst c99
       rw [if_pos rfl] at H
       have HC100 := zA H
       clear H
       have hnb101 := NB557_550.out
       have hnc101 := NB550_557.out
       have hcz102_0 : w10.cell? ⟨gb557, 0, none⟩ = some (.int .i64 0) := (blk_cell BK557.out 0).trans rfl
       have hcz102_1 : w10.cell? ⟨gb557, 1, none⟩ = some (.int .i64 0) := (blk_cell BK557.out 1).trans rfl
       have hcz102_2 : w10.cell? ⟨gb557, 2, none⟩ = some (.string (⟨#[]⟩ : ByteArray)) := (blk_cell BK557.out 2).trans rfl
       have hcz102_3 : w10.cell? ⟨gb557, 3, none⟩ = some (.slice none 0 0) := (blk_cell BK557.out 3).trans rfl
       have hfz102_0 := blk_frozen BK557.out 0
       have hfz102_1 := blk_frozen BK557.out 1
       have hfz102_2 := blk_frozen BK557.out 2
       have hfz102_3 := blk_frozen BK557.out 3
       go_upto_region 15 with (first | (go_at_call 90; (refine (impl_ValOk.calls k t551 0 (⟨#[]⟩ : ByteArray) _ _ ([] : List Int) true _ ?side1 ?side2 A98.out).mono ?_); (case side1 => exact Kd.C_nil _ _); (case side2 => exact Nat.le_refl _); rintro e w103 ⟨rfl, hb⟩; replace HO556 := zA (Kd.R_below zq29 hb); replace BK550 := zA (blk_below (g := gb550) (o := .cells #[.int .i64 0, .int .i64 0, .string (⟨#[]⟩ : ByteArray), .slice none 0 0] 76 (0, 0)) zq33 hb); replace BK557 := zA (blk_below (g := gb557) (o := .cells #[.int .i64 t551, .int .i64 0, .string (⟨#[]⟩ : ByteArray), .slice none 0 0] 76 (0, 0)) zq22 hb); replace HB := zA (below_step zq12 hb); clear hb))
       (try simp only [Act.put, List.setIfInBounds_toArray, List.set_cons_zero, List.set_cons_succ])
       have H := HC100.out
       clear HC100
       simp only [Option.some.injEq, Prod.mk.injEq] at H
       obtain ⟨rfl, rfl, rfl, rfl, rfl, rfl⟩ := H
       have hnb104 := NB557_550.out
       have hnc104 := NB550_557.out
       have hcz105_0 : w103.cell? ⟨gb557, 0, none⟩ = some (.int .i64 t551) := (blk_cell BK557.out 0).trans rfl
       have hcz105_1 : w103.cell? ⟨gb557, 1, none⟩ = some (.int .i64 0) := (blk_cell BK557.out 1).trans rfl
       have hcz105_2 : w103.cell? ⟨gb557, 2, none⟩ = some (.string (⟨#[]⟩ : ByteArray)) := (blk_cell BK557.out 2).trans rfl
       have hcz105_3 : w103.cell? ⟨gb557, 3, none⟩ = some (.slice none 0 0) := (blk_cell BK557.out 3).trans rfl
       have hfz105_0 := blk_frozen BK557.out 0
       have hfz105_1 := blk_frozen BK557.out 1
       have hfz105_2 := blk_frozen BK557.out 2
       have hfz105_3 := blk_frozen BK557.out 3
       have hcz106_0 : w103.cell? ⟨gb550, 0, none⟩ = some (.int .i64 0) := (blk_cell BK550.out 0).trans rfl
       have hcz106_1 : w103.cell? ⟨gb550, 1, none⟩ = some (.int .i64 0) := (blk_cell BK550.out 1).trans rfl
       have hcz106_2 : w103.cell? ⟨gb550, 2, none⟩ = some (.string (⟨#[]⟩ : ByteArray)) := (blk_cell BK550.out 2).trans rfl
       have hcz106_3 : w103.cell? ⟨gb550, 3, none⟩ = some (.slice none 0 0) := (blk_cell BK550.out 3).trans rfl
       have hfz106_0 := blk_frozen BK550.out 0
       have hfz106_1 := blk_frozen BK550.out 1
       have hfz106_2 := blk_frozen BK550.out 2
       have hfz106_3 := blk_frozen BK550.out 3
       go_wp2
       refine bodyPost_ret (results_ctt rfl _ _ gb550 76 #[.int .i64 t551, .int .i64 0, .string (⟨#[]⟩ : ByteArray), .slice none 0 0] (0, 0) _ rfl zq73 Try.underlying76 rfl (by kernel_rfl)) rfl ?_
       exact ⟨_, zq2, zq6, zq12⟩
      ·replace c99 := Bool.eq_false_iff.mpr c99
       subst c99
       rw [if_neg zF] at H
       have HC107 := zA H
       clear H
       have hnb108 := NB557_550.out
       have hnc108 := NB550_557.out
       have hcz109_0 : w10.cell? ⟨gb557, 0, none⟩ = some (.int .i64 0) := (blk_cell BK557.out 0).trans rfl
       have hcz109_1 : w10.cell? ⟨gb557, 1, none⟩ = some (.int .i64 0) := (blk_cell BK557.out 1).trans rfl
       have hcz109_2 : w10.cell? ⟨gb557, 2, none⟩ = some (.string (⟨#[]⟩ : ByteArray)) := (blk_cell BK557.out 2).trans rfl
       have hcz109_3 : w10.cell? ⟨gb557, 3, none⟩ = some (.slice none 0 0) := (blk_cell BK557.out 3).trans rfl
       have hfz109_0 := blk_frozen BK557.out 0
       have hfz109_1 := blk_frozen BK557.out 1
       have hfz109_2 := blk_frozen BK557.out 2
       have hfz109_3 := blk_frozen BK557.out 3
       go_upto_region 14 with (first | (go_at_call 90; (refine (impl_ValOk.calls k t551 0 (⟨#[]⟩ : ByteArray) _ _ ([] : List Int) false _ ?side1 ?side2 A98.out).mono ?_); (case side1 => exact Kd.C_nil _ _); (case side2 => exact Nat.le_refl _); rintro e w110 ⟨rfl, hb⟩; replace HO556 := zA (Kd.R_below zq29 hb); replace BK550 := zA (blk_below (g := gb550) (o := .cells #[.int .i64 0, .int .i64 0, .string (⟨#[]⟩ : ByteArray), .slice none 0 0] 76 (0, 0)) zq33 hb); replace BK557 := zA (blk_below (g := gb557) (o := .cells #[.int .i64 t551, .int .i64 0, .string (⟨#[]⟩ : ByteArray), .slice none 0 0] 76 (0, 0)) zq22 hb); replace HB := zA (below_step zq12 hb); clear hb))
       (try simp only [Act.put, List.setIfInBounds_toArray, List.set_cons_zero, List.set_cons_succ])
       have H := HC107.out
       clear HC107
       simp only [Option.some.injEq, Prod.mk.injEq] at H
       obtain ⟨rfl, rfl, rfl, rfl, rfl, rfl⟩ := H
       have hnb111 := NB550_557.out
       have hnc111 := NB557_550.out
       have hcz112_0 : w110.cell? ⟨gb550, 0, none⟩ = some (.int .i64 0) := (blk_cell BK550.out 0).trans rfl
       have hcz112_1 : w110.cell? ⟨gb550, 1, none⟩ = some (.int .i64 0) := (blk_cell BK550.out 1).trans rfl
       have hcz112_2 : w110.cell? ⟨gb550, 2, none⟩ = some (.string (⟨#[]⟩ : ByteArray)) := (blk_cell BK550.out 2).trans rfl
       have hcz112_3 : w110.cell? ⟨gb550, 3, none⟩ = some (.slice none 0 0) := (blk_cell BK550.out 3).trans rfl
       have hfz112_0 := blk_frozen BK550.out 0
       have hfz112_1 := blk_frozen BK550.out 1
       have hfz112_2 := blk_frozen BK550.out 2
       have hfz112_3 := blk_frozen BK550.out 3
       go_wp2
       refine bodyPost_ret (results_ctt rfl _ _ gb550 76 #[.int .i64 0, .int .i64 0, .string (⟨#[]⟩ : ByteArray), .slice none 0 0] (0, 0) _ rfl zq24 Try.underlying76 rfl (by kernel_rfl)) rfl ?_
       exact ⟨_, zq2, zq6, zq12⟩
     ·rw [if_neg c97] at H
      have c97b0 : ((t552.length : Int) == 0) = false := beq_eq_false_iff_ne.mpr c97
      have c97b1 : ((t552.length : Int) != 0) = true := bne_iff_ne.mpr c97
      have c97b2 : ¬ (t552 = []) := fun h_ => c97 (by rw [h_]; rfl)
      have HC113 := zA H
      clear H
      go_upto_region 14 with (fail)
      have H := HC113.out
      clear HC113
      simp only [Option.some.injEq, Prod.mk.injEq] at H
      obtain ⟨rfl, rfl, rfl, rfl, rfl, rfl⟩ := H
      have hnb114 := NB550_557.out
      have hnc114 := NB557_550.out
      have hcz115_0 : w10.cell? ⟨gb550, 0, none⟩ = some (.int .i64 0) := (blk_cell BK550.out 0).trans rfl
      have hcz115_1 : w10.cell? ⟨gb550, 1, none⟩ = some (.int .i64 0) := (blk_cell BK550.out 1).trans rfl
      have hcz115_2 : w10.cell? ⟨gb550, 2, none⟩ = some (.string (⟨#[]⟩ : ByteArray)) := (blk_cell BK550.out 2).trans rfl
      have hcz115_3 : w10.cell? ⟨gb550, 3, none⟩ = some (.slice none 0 0) := (blk_cell BK550.out 3).trans rfl
      have hfz115_0 := blk_frozen BK550.out 0
      have hfz115_1 := blk_frozen BK550.out 1
      have hfz115_2 := blk_frozen BK550.out 2
      have hfz115_3 := blk_frozen BK550.out 3
      go_wp2
      refine bodyPost_ret (results_ctt rfl _ _ gb550 76 #[.int .i64 0, .int .i64 0, .string (⟨#[]⟩ : ByteArray), .slice none 0 0] (0, 0) _ rfl zq42 Try.underlying76 rfl (by kernel_rfl)) rfl ?_
      exact ⟨_, zq2, zq6, zq12⟩
 ·replace c13 := Bool.eq_false_iff.mpr c13
  subst c13
  rw [if_neg zF] at H
  have HC116 := zA H
  clear H
  go_upto_region 4 with (fail)
  have H := HC116.out
  clear HC116
  simp only [Option.some.injEq, Prod.mk.injEq] at H
  obtain ⟨rfl, rfl, rfl, rfl, rfl, rfl⟩ := H
  have hnb117 := NB550_557.out
  have hnc117 := NB557_550.out
  have hcz118_0 : w10.cell? ⟨gb550, 0, none⟩ = some (.int .i64 0) := (blk_cell BK550.out 0).trans rfl
  have hcz118_1 : w10.cell? ⟨gb550, 1, none⟩ = some (.int .i64 0) := (blk_cell BK550.out 1).trans rfl
  have hcz118_2 : w10.cell? ⟨gb550, 2, none⟩ = some (.string (⟨#[]⟩ : ByteArray)) := (blk_cell BK550.out 2).trans rfl
  have hcz118_3 : w10.cell? ⟨gb550, 3, none⟩ = some (.slice none 0 0) := (blk_cell BK550.out 3).trans rfl
  have hfz118_0 := blk_frozen BK550.out 0
  have hfz118_1 := blk_frozen BK550.out 1
  have hfz118_2 := blk_frozen BK550.out 2
  have hfz118_3 := blk_frozen BK550.out 3
  go_wp2
  refine bodyPost_ret (results_ctt rfl _ _ gb550 76 #[.int .i64 0, .int .i64 0, .string (⟨#[]⟩ : ByteArray), .slice none 0 0] (0, 0) _ rfl zq42 Try.underlying76 rfl (by kernel_rfl)) rfl ?_
  exact ⟨_, zq2, zq6, zq12⟩

end Go.Proofs.Ytkcgghgkmgbphaa.PFnVals
