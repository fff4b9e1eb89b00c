-- WRITTEN BY a turned copy of the kit's printer (wip/patch_print.py), for this claim
import Derived.Test.YtkcgghgkmgbphaaPFnExactPutValx0
import Derived.Test.YtkcgghgkmgbphaaPFnExactPutValx7
namespace Go.Proofs.Ytkcgghgkmgbphaa.PFnExactPutVal
open Go.RowKit Go.Proofs.YtkcgghgkmgbphaaW.PrintWords Go.Proofs.YtkcgghgkmgbphaaW.PrintLast Go.Proofs.YtkcgghgkmgbphaaW.PrintMore
attribute [local go_sem] max2_int min2_int max_two min_two max_three min_three max_four min_four   -- for this text's walks alone
set_option linter.unusedVariables false
set_option linter.unusedSimpArgs false

attribute [local go_sem] cell_setCell_m
/-! ### laws_eqVal: function 71 -/
def laws_eqVal.f (k : Nat) (a0_0 : Int) (a0_1 : Int) (a0_2 : ByteArray) (l0_3 : List Int) (a1_0 : Int) (a1_1 : Int) (a1_2 : ByteArray) (l1_3 : List Int) : Option (Bool) := if a0_0 = a1_0 then (if a0_1 = a1_1 then (if a0_2.toList = a1_2.toList then ((laws_eqIntS.f k l0_3 l1_3).bind fun t314 => (if t314 = true then (some true) else (some false))) else (some false)) else (some false)) else (some false)
theorem laws_eqVal.mono : ∀ a0 a1 a2 a3 a4 a5 a6 a7 k, LeO (laws_eqVal.f k a0 a1 a2 a3 a4 a5 a6 a7) (laws_eqVal.f (k + 1) a0 a1 a2 a3 a4 a5 a6 a7) := by
 intro a0 a1 a2 a3 a4 a5 a6 a7 k
 unfold laws_eqVal.f
 have m0_ := @laws_eqIntS.mono
 exact zR
set_option maxHeartbeats 8000000 in
set_option maxRecDepth 100000 in
theorem laws_eqVal.calls (k : Nat) (a0_0 : Int) (a0_1 : Int) (a0_2 : ByteArray) (A0_3 : Option Addr) (c0_3 : Nat) (l0_3 : List Int) (a1_0 : Int) (a1_1 : Int) (a1_2 : ByteArray) (A1_3 : Option Addr) (c1_3 : Nat) (l1_3 : List Int) (r : Bool) (w : World) (hr0_3 : Kd.C (Kd.int .i64) w A0_3 l0_3.length l0_3) (hc0_3 : l0_3.length ≤ c0_3) (hr1_3 : Kd.C (Kd.int .i64) w A1_3 l1_3.length l1_3) (hc1_3 : l1_3.length ≤ c1_3) (h : laws_eqVal.f k a0_0 a0_1 a0_2 l0_3 a1_0 a1_1 a1_2 l1_3 = some r) :
  Calls Try.prog 71 #[.agg #[.int .i64 a0_0, .int .i64 a0_1, .string a0_2, .slice A0_3 l0_3.length c0_3], .agg #[.int .i64 a1_0, .int .i64 a1_1, .string a1_2, .slice A1_3 l1_3.length c1_3]] w fun e w' => e = .returned (.bool r) ∧ Below w.heap.size w w' := by
 have hu76 := Try.underlying76
 have HR0_3 := zA hr0_3
 have HC0_3 := zA hc0_3
 clear hr0_3 hc0_3
 have HR1_3 := zA hr1_3
 have HC1_3 := zA hc1_3
 clear hr1_3 hc1_3
 have HB := zA (Below.refl w.heap.size w)
 unfold laws_eqVal.f at h
 have H := h
 clear h
 have HC3 := zA H
 clear H
 go_enter Try.func71, Try.ntmps71
 go_upto_region 0 with (fail)
 have H := HC3.out
 clear HC3
 have HC4 := zA H
 clear H
 go_upto_region 1 with (first | ((with_reducible refine gate_dst (N := 2) rfl ?_); refine box_event ?hg (N := 2) ?hd (cs := #[.int .i64 a0_0, .int .i64 a0_1, .string a0_2, .slice A0_3 l0_3.length c0_3]) (t := 76) ?hr ?_; (case hd => rfl); (case hg => rfl); (case hr => first | (go_simp; done) | (go_simp; rfl)); intro gb312 hg w5 hbox hb; have BK312 := zA (hbox); have GW312 := zA ((zq6 : w.heap.size ≤ gb312)); have GE312 := zA ((zq6 : w.heap.size ≤ gb312)); replace HB := zA (below_step zq0 hb); clear hb hbox hg) | ((with_reducible refine gate_dst (N := 3) rfl ?_); refine box_event ?hg (N := 3) ?hd (cs := #[.int .i64 a1_0, .int .i64 a1_1, .string a1_2, .slice A1_3 l1_3.length c1_3]) (t := 76) ?hr ?_; (case hd => rfl); (case hg => rfl); (case hr => first | (go_simp; done) | (go_simp; rfl)); intro gb313 hg w6 hbox hb; have BK313 := zA (hbox); have GW313 := zA ((zq69 : w.heap.size ≤ gb313)); have GE313 := zA ((zq69 : w.heap.size ≤ gb313)); replace HB := zA (below_step zq47 hb); have NB312_313 := zA ((by rw [hg]; exact Nat.ne_of_lt (blk_lt (g := gb312) (o := .cells #[.int .i64 a0_0, .int .i64 a0_1, .string a0_2, .slice A0_3 l0_3.length c0_3] 76 (0, 0)) zq62) : gb312 ≠ gb313)); have NB313_312 := zA ((by rw [hg]; exact Nat.ne_of_gt (blk_lt (g := gb312) (o := .cells #[.int .i64 a0_0, .int .i64 a0_1, .string a0_2, .slice A0_3 l0_3.length c0_3] 76 (0, 0)) zq62) : gb313 ≠ gb312)); replace BK312 := zA (blk_below (g := gb312) (o := .cells #[.int .i64 a0_0, .int .i64 a0_1, .string a0_2, .slice A0_3 l0_3.length c0_3] 76 (0, 0)) zq62 hb); clear hb hbox hg))
 (try simp only [Act.put, List.setIfInBounds_toArray, List.set_cons_zero, List.set_cons_succ])
 have H := HC4.out
 clear HC4
 by_cases c7 : a0_0 = a1_0
 ·rw [if_pos c7] at H
  have c7b0 : (a0_0 == a1_0) = true := beq_iff_eq.mpr c7
  have c7b1 : (a0_0 != a1_0) = false := bne_eq_false_iff_eq.mpr c7
  clear c7
  have HC8 := zA H
  clear H
  have hnb9 := NB312_313.out
  have hnc9 := NB313_312.out
  have hcz10_0 : w6.cell? ⟨gb312, 0, none⟩ = some (.int .i64 a0_0) := (blk_cell BK312.out 0).trans rfl
  have hcz10_1 : w6.cell? ⟨gb312, 1, none⟩ = some (.int .i64 a0_1) := (blk_cell BK312.out 1).trans rfl
  have hcz10_2 : w6.cell? ⟨gb312, 2, none⟩ = some (.string a0_2) := (blk_cell BK312.out 2).trans rfl
  have hcz10_3 : w6.cell? ⟨gb312, 3, none⟩ = some (.slice A0_3 l0_3.length c0_3) := (blk_cell BK312.out 3).trans rfl
  have hfz10_0 := blk_frozen BK312.out 0
  have hfz10_1 := blk_frozen BK312.out 1
  have hfz10_2 := blk_frozen BK312.out 2
  have hfz10_3 := blk_frozen BK312.out 3
  have hcz11_0 : w6.cell? ⟨gb313, 0, none⟩ = some (.int .i64 a1_0) := (blk_cell BK313.out 0).trans rfl
  have hcz11_1 : w6.cell? ⟨gb313, 1, none⟩ = some (.int .i64 a1_1) := (blk_cell BK313.out 1).trans rfl
  have hcz11_2 : w6.cell? ⟨gb313, 2, none⟩ = some (.string a1_2) := (blk_cell BK313.out 2).trans rfl
  have hcz11_3 : w6.cell? ⟨gb313, 3, none⟩ = some (.slice A1_3 l1_3.length c1_3) := (blk_cell BK313.out 3).trans rfl
  have hfz11_0 := blk_frozen BK313.out 0
  have hfz11_1 := blk_frozen BK313.out 1
  have hfz11_2 := blk_frozen BK313.out 2
  have hfz11_3 := blk_frozen BK313.out 3
  go_upto_region 3 with (fail)
  have H := HC8.out
  clear HC8
  by_cases c12 : a0_1 = a1_1
  ·rw [if_pos c12] at H
   have c12b0 : (a0_1 == a1_1) = true := beq_iff_eq.mpr c12
   have c12b1 : (a0_1 != a1_1) = false := bne_eq_false_iff_eq.mpr c12
   clear c12
   have HC13 := zA H
   clear H
   have hnb14 := NB312_313.out
   have hnc14 := NB313_312.out
   have hcz15_0 : w6.cell? ⟨gb312, 0, none⟩ = some (.int .i64 a0_0) := (blk_cell BK312.out 0).trans rfl
   have hcz15_1 : w6.cell? ⟨gb312, 1, none⟩ = some (.int .i64 a0_1) := (blk_cell BK312.out 1).trans rfl
   have hcz15_2 : w6.cell? ⟨gb312, 2, none⟩ = some (.string a0_2) := (blk_cell BK312.out 2).trans rfl
   have hcz15_3 : w6.cell? ⟨gb312, 3, none⟩ = some (.slice A0_3 l0_3.length c0_3) := (blk_cell BK312.out 3).trans rfl
   have hfz15_0 := blk_frozen BK312.out 0
   have hfz15_1 := blk_frozen BK312.out 1
   have hfz15_2 := blk_frozen BK312.out 2
   have hfz15_3 := blk_frozen BK312.out 3
   have hcz16_0 : w6.cell? ⟨gb313, 0, none⟩ = some (.int .i64 a1_0) := (blk_cell BK313.out 0).trans rfl
   have hcz16_1 : w6.cell? ⟨gb313, 1, none⟩ = some (.int .i64 a1_1) := (blk_cell BK313.out 1).trans rfl
   have hcz16_2 : w6.cell? ⟨gb313, 2, none⟩ = some (.string a1_2) := (blk_cell BK313.out 2).trans rfl
   have hcz16_3 : w6.cell? ⟨gb313, 3, none⟩ = some (.slice A1_3 l1_3.length c1_3) := (blk_cell BK313.out 3).trans rfl
   have hfz16_0 := blk_frozen BK313.out 0
   have hfz16_1 := blk_frozen BK313.out 1
   have hfz16_2 := blk_frozen BK313.out 2
   have hfz16_3 := blk_frozen BK313.out 3
   go_upto_region 5 with (fail)
   have H := HC13.out
   clear HC13
   by_cases c17 : a0_2.toList = a1_2.toList
   ·rw [if_pos c17] at H
    have c17b0 : (a0_2.toList == a1_2.toList) = true := beq_iff_eq.mpr c17
    have c17b1 : (a0_2.toList != a1_2.toList) = false := bne_eq_false_iff_eq.mpr c17
    clear c17
    have HC18 := zA H
    clear H
    have hnb19 := NB312_313.out
    have hnc19 := NB313_312.out
    have hcz20_0 : w6.cell? ⟨gb312, 0, none⟩ = some (.int .i64 a0_0) := (blk_cell BK312.out 0).trans rfl
    have hcz20_1 : w6.cell? ⟨gb312, 1, none⟩ = some (.int .i64 a0_1) := (blk_cell BK312.out 1).trans rfl
    have hcz20_2 : w6.cell? ⟨gb312, 2, none⟩ = some (.string a0_2) := (blk_cell BK312.out 2).trans rfl
    have hcz20_3 : w6.cell? ⟨gb312, 3, none⟩ = some (.slice A0_3 l0_3.length c0_3) := (blk_cell BK312.out 3).trans rfl
    have hfz20_0 := blk_frozen BK312.out 0
    have hfz20_1 := blk_frozen BK312.out 1
    have hfz20_2 := blk_frozen BK312.out 2
    have hfz20_3 := blk_frozen BK312.out 3
    have hcz21_0 : w6.cell? ⟨gb313, 0, none⟩ = some (.int .i64 a1_0) := (blk_cell BK313.out 0).trans rfl
    have hcz21_1 : w6.cell? ⟨gb313, 1, none⟩ = some (.int .i64 a1_1) := (blk_cell BK313.out 1).trans rfl
    have hcz21_2 : w6.cell? ⟨gb313, 2, none⟩ = some (.string a1_2) := (blk_cell BK313.out 2).trans rfl
    have hcz21_3 : w6.cell? ⟨gb313, 3, none⟩ = some (.slice A1_3 l1_3.length c1_3) := (blk_cell BK313.out 3).trans rfl
    have hfz21_0 := blk_frozen BK313.out 0
    have hfz21_1 := blk_frozen BK313.out 1
    have hfz21_2 := blk_frozen BK313.out 2
    have hfz21_3 := blk_frozen BK313.out 3
    go_upto_region 7 with (fail)
    have H := HC18.out
    clear HC18
    obtain ⟨t314, A22, H⟩ := zB H
    try dsimp only at H
    by_cases c23 : t314 = true
    ·subst c23
     rw [if_pos rfl] at H
     have HC24 := zA H
     clear H
     have hnb25 := NB312_313.out
     have hnc25 := NB313_312.out
     have hcz26_0 : w6.cell? ⟨gb312, 0, none⟩ = some (.int .i64 a0_0) := (blk_cell BK312.out 0).trans rfl
     have hcz26_1 : w6.cell? ⟨gb312, 1, none⟩ = some (.int .i64 a0_1) := (blk_cell BK312.out 1).trans rfl
     have hcz26_2 : w6.cell? ⟨gb312, 2, none⟩ = some (.string a0_2) := (blk_cell BK312.out 2).trans rfl
     have hcz26_3 : w6.cell? ⟨gb312, 3, none⟩ = some (.slice A0_3 l0_3.length c0_3) := (blk_cell BK312.out 3).trans rfl
     have hfz26_0 := blk_frozen BK312.out 0
     have hfz26_1 := blk_frozen BK312.out 1
     have hfz26_2 := blk_frozen BK312.out 2
     have hfz26_3 := blk_frozen BK312.out 3
     have hcz27_0 : w6.cell? ⟨gb313, 0, none⟩ = some (.int .i64 a1_0) := (blk_cell BK313.out 0).trans rfl
     have hcz27_1 : w6.cell? ⟨gb313, 1, none⟩ = some (.int .i64 a1_1) := (blk_cell BK313.out 1).trans rfl
     have hcz27_2 : w6.cell? ⟨gb313, 2, none⟩ = some (.string a1_2) := (blk_cell BK313.out 2).trans rfl
     have hcz27_3 : w6.cell? ⟨gb313, 3, none⟩ = some (.slice A1_3 l1_3.length c1_3) := (blk_cell BK313.out 3).trans rfl
     have hfz27_0 := blk_frozen BK313.out 0
     have hfz27_1 := blk_frozen BK313.out 1
     have hfz27_2 := blk_frozen BK313.out 2
     have hfz27_3 := blk_frozen BK313.out 3
     go_upto_region 9 with (first | ((with_reducible refine gate_callee (f := 157) rfl ?_); refine goesL_ (some 24) rfl rfl Try.func157 (by kernel_rfl) rfl #[.slice A0_3 l0_3.length c0_3, .slice A1_3 l1_3.length c1_3] rfl zq1 ?_; (with_reducible refine (laws_eqIntS.calls k _ _ l0_3 _ _ l1_3 true _ ?side1 ?side2 ?side3 ?side4 A22.out).mono ?_); (case side1 => repeat (first | exact (Kd.C_below HR0_3.out HB.out) | (with_reducible refine Kd.C_alloc ?_ _) | (with_reducible refine Kd.C_drewN ?_ _) | (with_reducible refine Kd.C_drew ?_))); (case side2 => exact HC0_3.out); (case side3 => repeat (first | exact (Kd.C_below HR1_3.out HB.out) | (with_reducible refine Kd.C_alloc ?_ _) | (with_reducible refine Kd.C_drewN ?_ _) | (with_reducible refine Kd.C_drew ?_))); (case side4 => exact HC1_3.out); rintro e w' ⟨rfl, ⟨nd, rfl⟩⟩; refine ⟨_, rfl, ?_⟩))
     (try simp only [Act.put, List.setIfInBounds_toArray, List.set_cons_zero, List.set_cons_succ])
     (try (rw [drewN_self w6]; generalize hq_ : World.drewN w6 _ = w6; replace BK312 := zA (blk_at hq_ BK312.out); replace BK313 := zA (blk_at hq_ BK313.out); replace HB := zA (below_at hq_ HB.out); clear hq_))
     have H := HC24.out
     clear HC24
     obtain rfl := Option.some.inj H
     go_wp2
     go_ret
     exact ⟨zq2, zq29⟩
    ·replace c23 := Bool.eq_false_iff.mpr c23
     subst c23
     rw [if_neg zF] at H
     have HC28 := zA H
     clear H
     have hnb29 := NB312_313.out
     have hnc29 := NB313_312.out
     have hcz30_0 : w6.cell? ⟨gb312, 0, none⟩ = some (.int .i64 a0_0) := (blk_cell BK312.out 0).trans rfl
     have hcz30_1 : w6.cell? ⟨gb312, 1, none⟩ = some (.int .i64 a0_1) := (blk_cell BK312.out 1).trans rfl
     have hcz30_2 : w6.cell? ⟨gb312, 2, none⟩ = some (.string a0_2) := (blk_cell BK312.out 2).trans rfl
     have hcz30_3 : w6.cell? ⟨gb312, 3, none⟩ = some (.slice A0_3 l0_3.length c0_3) := (blk_cell BK312.out 3).trans rfl
     have hfz30_0 := blk_frozen BK312.out 0
     have hfz30_1 := blk_frozen BK312.out 1
     have hfz30_2 := blk_frozen BK312.out 2
     have hfz30_3 := blk_frozen BK312.out 3
     have hcz31_0 : w6.cell? ⟨gb313, 0, none⟩ = some (.int .i64 a1_0) := (blk_cell BK313.out 0).trans rfl
     have hcz31_1 : w6.cell? ⟨gb313, 1, none⟩ = some (.int .i64 a1_1) := (blk_cell BK313.out 1).trans rfl
     have hcz31_2 : w6.cell? ⟨gb313, 2, none⟩ = some (.string a1_2) := (blk_cell BK313.out 2).trans rfl
     have hcz31_3 : w6.cell? ⟨gb313, 3, none⟩ = some (.slice A1_3 l1_3.length c1_3) := (blk_cell BK313.out 3).trans rfl
     have hfz31_0 := blk_frozen BK313.out 0
     have hfz31_1 := blk_frozen BK313.out 1
     have hfz31_2 := blk_frozen BK313.out 2
     have hfz31_3 := blk_frozen BK313.out 3
     go_upto_region 8 with (first | ((with_reducible refine gate_callee (f := 157) rfl ?_); refine goesL_ (some 24) rfl rfl Try.func157 (by kernel_rfl) rfl #[.slice A0_3 l0_3.length c0_3, .slice A1_3 l1_3.length c1_3] rfl zq1 ?_; (with_reducible refine (laws_eqIntS.calls k _ _ l0_3 _ _ l1_3 false _ ?side1 ?side2 ?side3 ?side4 A22.out).mono ?_); (case side1 => repeat (first | exact (Kd.C_below HR0_3.out HB.out) | (with_reducible refine Kd.C_alloc ?_ _) | (with_reducible refine Kd.C_drewN ?_ _) | (with_reducible refine Kd.C_drew ?_))); (case side2 => exact HC0_3.out); (case side3 => repeat (first | exact (Kd.C_below HR1_3.out HB.out) | (with_reducible refine Kd.C_alloc ?_ _) | (with_reducible refine Kd.C_drewN ?_ _) | (with_reducible refine Kd.C_drew ?_))); (case side4 => exact HC1_3.out); rintro e w' ⟨rfl, ⟨nd, rfl⟩⟩; refine ⟨_, rfl, ?_⟩))
     (try simp only [Act.put, List.setIfInBounds_toArray, List.set_cons_zero, List.set_cons_succ])
     (try (rw [drewN_self w6]; generalize hq_ : World.drewN w6 _ = w6; replace BK312 := zA (blk_at hq_ BK312.out); replace BK313 := zA (blk_at hq_ BK313.out); replace HB := zA (below_at hq_ HB.out); clear hq_))
     have H := HC28.out
     clear HC28
     obtain rfl := Option.some.inj H
     go_wp2
     go_ret
     exact ⟨zq2, zq29⟩
   ·rw [if_neg c17] at H
    have c17b0 : (a0_2.toList == a1_2.toList) = false := beq_eq_false_iff_ne.mpr c17
    have c17b1 : (a0_2.toList != a1_2.toList) = true := bne_iff_ne.mpr c17
    have HC32 := zA H
    clear H
    have hnb33 := NB312_313.out
    have hnc33 := NB313_312.out
    have hcz34_0 : w6.cell? ⟨gb312, 0, none⟩ = some (.int .i64 a0_0) := (blk_cell BK312.out 0).trans rfl
    have hcz34_1 : w6.cell? ⟨gb312, 1, none⟩ = some (.int .i64 a0_1) := (blk_cell BK312.out 1).trans rfl
    have hcz34_2 : w6.cell? ⟨gb312, 2, none⟩ = some (.string a0_2) := (blk_cell BK312.out 2).trans rfl
    have hcz34_3 : w6.cell? ⟨gb312, 3, none⟩ = some (.slice A0_3 l0_3.length c0_3) := (blk_cell BK312.out 3).trans rfl
    have hfz34_0 := blk_frozen BK312.out 0
    have hfz34_1 := blk_frozen BK312.out 1
    have hfz34_2 := blk_frozen BK312.out 2
    have hfz34_3 := blk_frozen BK312.out 3
    have hcz35_0 : w6.cell? ⟨gb313, 0, none⟩ = some (.int .i64 a1_0) := (blk_cell BK313.out 0).trans rfl
    have hcz35_1 : w6.cell? ⟨gb313, 1, none⟩ = some (.int .i64 a1_1) := (blk_cell BK313.out 1).trans rfl
    have hcz35_2 : w6.cell? ⟨gb313, 2, none⟩ = some (.string a1_2) := (blk_cell BK313.out 2).trans rfl
    have hcz35_3 : w6.cell? ⟨gb313, 3, none⟩ = some (.slice A1_3 l1_3.length c1_3) := (blk_cell BK313.out 3).trans rfl
    have hfz35_0 := blk_frozen BK313.out 0
    have hfz35_1 := blk_frozen BK313.out 1
    have hfz35_2 := blk_frozen BK313.out 2
    have hfz35_3 := blk_frozen BK313.out 3
    go_upto_region 6 with (fail)
    have H := HC32.out
    clear HC32
    obtain rfl := Option.some.inj H
    go_wp2
    go_ret
    exact ⟨zq2, zq29⟩
  ·rw [if_neg c12] at H
   have c12b0 : (a0_1 == a1_1) = false := beq_eq_false_iff_ne.mpr c12
   have c12b1 : (a0_1 != a1_1) = true := bne_iff_ne.mpr c12
   have HC36 := zA H
   clear H
   have hnb37 := NB312_313.out
   have hnc37 := NB313_312.out
   have hcz38_0 : w6.cell? ⟨gb312, 0, none⟩ = some (.int .i64 a0_0) := (blk_cell BK312.out 0).trans rfl
   have hcz38_1 : w6.cell? ⟨gb312, 1, none⟩ = some (.int .i64 a0_1) := (blk_cell BK312.out 1).trans rfl
   have hcz38_2 : w6.cell? ⟨gb312, 2, none⟩ = some (.string a0_2) := (blk_cell BK312.out 2).trans rfl
   have hcz38_3 : w6.cell? ⟨gb312, 3, none⟩ = some (.slice A0_3 l0_3.length c0_3) := (blk_cell BK312.out 3).trans rfl
   have hfz38_0 := blk_frozen BK312.out 0
   have hfz38_1 := blk_frozen BK312.out 1
   have hfz38_2 := blk_frozen BK312.out 2
   have hfz38_3 := blk_frozen BK312.out 3
   have hcz39_0 : w6.cell? ⟨gb313, 0, none⟩ = some (.int .i64 a1_0) := (blk_cell BK313.out 0).trans rfl
   have hcz39_1 : w6.cell? ⟨gb313, 1, none⟩ = some (.int .i64 a1_1) := (blk_cell BK313.out 1).trans rfl
   have hcz39_2 : w6.cell? ⟨gb313, 2, none⟩ = some (.string a1_2) := (blk_cell BK313.out 2).trans rfl
   have hcz39_3 : w6.cell? ⟨gb313, 3, none⟩ = some (.slice A1_3 l1_3.length c1_3) := (blk_cell BK313.out 3).trans rfl
   have hfz39_0 := blk_frozen BK313.out 0
   have hfz39_1 := blk_frozen BK313.out 1
   have hfz39_2 := blk_frozen BK313.out 2
   have hfz39_3 := blk_frozen BK313.out 3
   go_upto_region 4 with (fail)
   have H := HC36.out
   clear HC36
   obtain rfl := Option.some.inj H
   go_wp2
   go_ret
   exact ⟨zq2, zq29⟩
 ·rw [if_neg c7] at H
  have c7b0 : (a0_0 == a1_0) = false := beq_eq_false_iff_ne.mpr c7
  have c7b1 : (a0_0 != a1_0) = true := bne_iff_ne.mpr c7
  have HC40 := zA H
  clear H
  have hnb41 := NB312_313.out
  have hnc41 := NB313_312.out
  have hcz42_0 : w6.cell? ⟨gb312, 0, none⟩ = some (.int .i64 a0_0) := (blk_cell BK312.out 0).trans rfl
  have hcz42_1 : w6.cell? ⟨gb312, 1, none⟩ = some (.int .i64 a0_1) := (blk_cell BK312.out 1).trans rfl
  have hcz42_2 : w6.cell? ⟨gb312, 2, none⟩ = some (.string a0_2) := (blk_cell BK312.out 2).trans rfl
  have hcz42_3 : w6.cell? ⟨gb312, 3, none⟩ = some (.slice A0_3 l0_3.length c0_3) := (blk_cell BK312.out 3).trans rfl
  have hfz42_0 := blk_frozen BK312.out 0
  have hfz42_1 := blk_frozen BK312.out 1
  have hfz42_2 := blk_frozen BK312.out 2
  have hfz42_3 := blk_frozen BK312.out 3
  have hcz43_0 : w6.cell? ⟨gb313, 0, none⟩ = some (.int .i64 a1_0) := (blk_cell BK313.out 0).trans rfl
  have hcz43_1 : w6.cell? ⟨gb313, 1, none⟩ = some (.int .i64 a1_1) := (blk_cell BK313.out 1).trans rfl
  have hcz43_2 : w6.cell? ⟨gb313, 2, none⟩ = some (.string a1_2) := (blk_cell BK313.out 2).trans rfl
  have hcz43_3 : w6.cell? ⟨gb313, 3, none⟩ = some (.slice A1_3 l1_3.length c1_3) := (blk_cell BK313.out 3).trans rfl
  have hfz43_0 := blk_frozen BK313.out 0
  have hfz43_1 := blk_frozen BK313.out 1
  have hfz43_2 := blk_frozen BK313.out 2
  have hfz43_3 := blk_frozen BK313.out 3
  go_upto_region 2 with (fail)
  have H := HC40.out
  clear HC40
  obtain rfl := Option.some.inj H
  go_wp2
  go_ret
  exact ⟨zq2, zq29⟩

/-! ### laws_markIntS: function 158 -/
def laws_markIntS.l0 : Nat → List Int → Int → Int → Option (Int × List Int)
 | 0, _, _, _ => none
 | k + 1, x0, x1, x5 => if x5 < (x0.length : Int) then (if 0 ≤ x5 then (laws_markIntS.l0 k (x0.set (x5 : Int).toNat x1) (wrap64 (x1 + 1)) (wrap64 (x5 + 1))) else (none)) else (some (x1, x0))
def laws_markIntS.f (k : Nat) (l0 : List Int) (a1 : Int) : Option (Int × List Int) := laws_markIntS.l0 k l0 a1 0
theorem laws_markIntS.mono_l : ∀ k, (∀ y0 y1 y2, LeO (laws_markIntS.l0 k y0 y1 y2) (laws_markIntS.l0 (k + 1) y0 y1 y2))
 | 0 => fun _ _ _ r h => by simp [laws_markIntS.l0] at h
 | k + 1 => by
  have ih0 := laws_markIntS.mono_l k
  ·intro y0 y1 y2
   unfold laws_markIntS.l0
   exact zR
theorem laws_markIntS.mono : ∀ a0 a1 k, LeO (laws_markIntS.f k a0 a1) (laws_markIntS.f (k + 1) a0 a1) := by
 intro a0 a1 k
 have ih0 := laws_markIntS.mono_l k
 unfold laws_markIntS.f
 exact zR
set_option maxHeartbeats 8000000 in
set_option maxRecDepth 100000 in
theorem laws_markIntS.calls (k : Nat) (P0_ : Nat → Prop) (u9000_ : Value) (l0 : List Int) (a1 : Int) (r1 : Int) (r2 : List Int) (w0 w : World) (hB : Below w0.heap.size w0 w) (ho0 : Kd.R (Kd.int .i64) 3 w w0.heap.size P0_ u9000_ l0) (h : laws_markIntS.f k l0 a1 = some (r1, r2)) :
  Calls Try.prog 158 #[u9000_, .int .i64 a1] w fun e w' => e = .returned (.int .i64 r1) ∧ Kd.R (Kd.int .i64) 3 w' w0.heap.size (fun k_ => (P0_ k_ ∨ w.heap.size ≤ k_)) u9000_ r2 ∧ Below w0.heap.size w0 w' ∧ Kept w w' (fun k_ => P0_ k_) := by
 have HO0 := zA (show Kd.R (Kd.int .i64) 3 w w0.heap.size (fun k_ => (P0_ k_ ∨ w.heap.size ≤ k_)) u9000_ l0 from Kd.R_mono ho0 (fun k_ hk => (.inl hk)))
 have HK := zA (Kept.refl w (fun k_ => P0_ k_))
 have HW0 := zA hB.size
 have HB := zA hB
 clear hB
 unfold laws_markIntS.f at h
 have H := h
 clear h
 have HC3 := zA H
 clear H
 go_enter Try.func158, Try.ntmps158
 go_upto_region 0 with (fail)
 have H := HC3.out
 clear HC3
 have HC4 := zA H
 clear H
 go_upto_region 1 with (fail)
 have H := HC4.out
 clear HC4
 have H' := zA H
 clear H
 go_wp2
 go_loopg [1, 5] k (fun kq v1 v5 w' => ∃ (x0_1 : List Int) (x1_1 : Int) (x5_1 : Int), v1 = .int .i64 x1_1 ∧ v5 = .int .i64 x5_1 ∧ Aside0 (laws_markIntS.l0 kq x0_1 x1_1 x5_1 = some (r1, r2)) ∧ Aside0 (kq ≤ k) ∧ Aside0 (Kd.R (Kd.int .i64) 3 w' w0.heap.size (fun k_ => (P0_ k_ ∨ w.heap.size ≤ k_)) u9000_ x0_1) ∧ Aside0 (Kept w w' (fun k_ => P0_ k_)) ∧ Aside0 (Below w0.heap.size w0 w'))
 case atStart => exact ⟨(l0), (a1), (0), zq8, zq8, H', ⟨Nat.le_refl _⟩, ⟨zq88⟩, ⟨zq25⟩, ⟨zq0⟩⟩
 case round =>
  clear H'
  try clear c1
  try clear p2
  obtain ⟨x0_1, x1_1, x5_1, rfl, rfl, HA, HK1, HO_0, HK, HB⟩ := hrel
  cases gk with
  | zero => exact absurd HA.out (by simp [laws_markIntS.l0])
  | succ k1 =>
   have H := HA.out
   clear HA
   simp only [laws_markIntS.l0] at H
   have HC5 := zA H
   clear H
   go_upto_region 2 with (fail)
   have H := HC5.out
   clear HC5
   by_cases c6 : x5_1 < (x0_1.length : Int)
   ·rw [if_pos c6] at H
    have c6b0 : decide (x5_1 < (x0_1.length : Int)) = true := decide_eq_true c6
    clear c6
    have HC7 := zA H
    clear H
    obtain ⟨Ao8, co8, eo8⟩ := Kd.R_slice HO_0.out
    subst eo8
    go_upto_region 4 with (fail)
    have H := HC7.out
    clear HC7
    obtain ⟨c9, H⟩ := zN H
    have c9b0 : decide (0 ≤ x5_1) = true := decide_eq_true c9
    clear c9
    obtain ⟨y315, hy315⟩ : ∃ y_ : List Int, y_ = (x0_1.set (x5_1 : Int).toNat x1_1) := ⟨_, rfl⟩
    rw [← hy315] at H
    have Ny315 := zA hy315
    clear hy315
    have HC11 := zA H
    clear H
    have p10 : 0 ≤ (x5_1 : Int) := of_decide_eq_true zq9
    have q10 : (x5_1 : Int) < ((x0_1.length : Int) : Int) := of_decide_eq_true zq9
    obtain ⟨go10, co10, eo10, gb10, gl10, cl10, HG10⟩ := Kd.R_form HO_0.out zq57
    (first | cases eo10 | (injection eo10 with ea_ en_ ec_; (first | subst ea_ | (injection ea_ with ea_; subst ea_)); subst ec_; clear en_))
    have GB10 := zA gb10
    have GG10 := zA HG10
    clear gb10 gl10 HG10
    have HMgo10 := zA (show (P0_ go10 ∨ w.heap.size ≤ go10) from (HO_0.out.1 _ rfl))
    obtain ⟨hx10_0, hf10_0⟩ := Kd.R_celln 0 HO_0.out (x5_1 : Int) p10 q10
    replace p10 := eq_true p10
    replace q10 := eq_true q10
    have HP12 := Kd.R_putg HO_0.out (x5_1 : Int) x1_1
    go_upto_region 5 with (first | ((with_reducible refine gate_store (t := 3) (p := 15) rfl ?_); refine store_event (t := 3) (p := 15) (v := ?vo_w13) (w1 := (wr.setCell ⟨go10, (x5_1 : Int).toNat, none⟩ (.int .i64 x1_1))) ?hg ?ho ?hn ?hr ?_; (case ho => rfl); (case hg => rfl); (case hn => rfl); (case hr => first | (go_simp; done) | (go_simp; rfl)); intro w13 hw; have hg : wr.grownBy w13 (some go10) := (by rw [hw]; exact HP12.2); have hp_ : Kd.R (Kd.int .i64) 3 w13 w0.heap.size (fun k_ => (P0_ k_ ∨ w.heap.size ≤ k_)) (.slice (some ⟨go10, 0, none⟩) x0_1.length co8) y315 := (by rw [hw, Ny315.out]; exact HP12.1); clear HP12; replace HB := zA ((by rw [hw]; exact below_set (HB.out) GB10.out : Below w0.heap.size w0 w13)); replace HK := zA (Kept.of_grown (S := (fun k_ => P0_ k_)) hg zq25 (fun k_ e_ => (HO_0.out.1 k_ e_))); replace HO_0 := zA (hp_); clear hg hw hp_))
    (try simp only [Act.put, List.setIfInBounds_toArray, List.set_cons_zero, List.set_cons_succ])
    have H := HC11.out
    clear HC11
    have HC14 := zA H
    clear H
    go_upto_region 3 with (fail)
    have H := HC14.out
    clear HC14
    have H' := zA H
    clear H
    go_wp2
    go_roundg k1
    case measure => have := HK1.out; omega
    case rel => exact ⟨(y315), (wrap64 (x1_1 + 1)), (wrap64 (x5_1 + 1)), zq8, zq8, H', ⟨zq49⟩, ⟨zq52⟩, ⟨zq25⟩, ⟨zq0⟩⟩
   ·rw [if_neg c6] at H
    have c6b0 : decide (x5_1 < (x0_1.length : Int)) = false := decide_eq_false c6
    clear c6
    have HC15 := zA H
    clear H
    obtain ⟨Ao16, co16, eo16⟩ := Kd.R_slice HO_0.out
    subst eo16
    go_upto_region 6 with (fail)
    have H := HC15.out
    clear HC15
    simp only [Option.some.injEq, Prod.mk.injEq] at H
    obtain ⟨rfl, rfl⟩ := H
    go_wp2
    go_ret
    exact ⟨zq2, zq52, zq0, zq25⟩

/-! ### laws_markVal: function 72 -/
def laws_markVal.f (k : Nat) (a0_0 : Int) (a0_1 : Int) (a0_2 : ByteArray) (l0_3 : List Int) (a1 : Int) : Option (Int × List Int) := (laws_markIntS.f k l0_3 a1).bind fun bt317 => (some (bt317.1, bt317.2))
theorem laws_markVal.mono : ∀ a0 a1 a2 a3 a4 k, LeO (laws_markVal.f k a0 a1 a2 a3 a4) (laws_markVal.f (k + 1) a0 a1 a2 a3 a4) := by
 intro a0 a1 a2 a3 a4 k
 unfold laws_markVal.f
 have m0_ := @laws_markIntS.mono
 exact zR
set_option maxHeartbeats 8000000 in
set_option maxRecDepth 100000 in
theorem laws_markVal.calls (k : Nat) (a0_0 : Int) (a0_1 : Int) (a0_2 : ByteArray) (P0_3_ : Nat → Prop) (u9000_ : Value) (l0_3 : List Int) (a1 : Int) (r1 : Int) (r2 : List Int) (w0 w : World) (hB : Below w0.heap.size w0 w) (ho0_3 : Kd.R (Kd.int .i64) 3 w w0.heap.size P0_3_ u9000_ l0_3) (h : laws_markVal.f k a0_0 a0_1 a0_2 l0_3 a1 = some (r1, r2)) :
  Calls Try.prog 72 #[.agg #[.int .i64 a0_0, .int .i64 a0_1, .string a0_2, u9000_], .int .i64 a1] w fun e w' => e = .returned (.int .i64 r1) ∧ Kd.R (Kd.int .i64) 3 w' w0.heap.size (fun k_ => (P0_3_ k_ ∨ w.heap.size ≤ k_)) u9000_ r2 ∧ Below w0.heap.size w0 w' ∧ Kept w w' (fun k_ => P0_3_ k_) := by
 have hu76 := Try.underlying76
 have HO0_3 := zA (show Kd.R (Kd.int .i64) 3 w w0.heap.size (fun k_ => (P0_3_ k_ ∨ w.heap.size ≤ k_)) u9000_ l0_3 from Kd.R_mono ho0_3 (fun k_ hk => (.inl hk)))
 have HK := zA (Kept.refl w (fun k_ => P0_3_ k_))
 have HW0 := zA hB.size
 have HB := zA hB
 clear hB
 unfold laws_markVal.f at h
 have H := h
 clear h
 have HC3 := zA H
 clear H
 go_enter Try.func72, Try.ntmps72
 go_upto_region 0 with (fail)
 have H := HC3.out
 clear HC3
 have HC4 := zA H
 clear H
 obtain ⟨Ao5, co5, eo5⟩ := Kd.R_slice HO0_3.out
 subst eo5
 go_upto_region 1 with (first | ((with_reducible refine gate_dst (N := 2) rfl ?_); refine box_event ?hg (N := 2) ?hd (cs := #[.int .i64 a0_0, .int .i64 a0_1, .string a0_2, .slice Ao5 l0_3.length co5]) (t := 76) ?hr ?_; (case hd => rfl); (case hg => rfl); (case hr => first | (go_simp; done) | (go_simp; rfl)); intro gb316 hg w6 hbox hb; replace HO0_3 := zA (Kd.R_below zq85 hb); have BK316 := zA (hbox); have GW316 := zA ((by rw [hg]; exact (by first | exact HK.out.1 | exact (show Kept w _ (fun k_ => P0_3_ k_) from by repeat (first | (with_reducible first | exact HK.out | apply Kept.alloc | apply Kept.drewN | apply Kept.drew) | exact HK.out)).1) : w.heap.size ≤ gb316)); replace HK := zA (Kept.below (S := (fun k_ => P0_3_ k_)) zq25 hb); have GE316 := zA ((zq6 : w0.heap.size ≤ gb316)); replace HB := zA (below_step zq0 hb); clear hb hbox hg))
 (try simp only [Act.put, List.setIfInBounds_toArray, List.set_cons_zero, List.set_cons_succ])
 have H := HC4.out
 clear HC4
 obtain ⟨⟨t317, t318⟩, A7, H⟩ := zB H
 try dsimp only at H
 have HC8 := zA H
 clear H
 have hcz9_0 : w6.cell? ⟨gb316, 0, none⟩ = some (.int .i64 a0_0) := (blk_cell BK316.out 0).trans rfl
 have hcz9_1 : w6.cell? ⟨gb316, 1, none⟩ = some (.int .i64 a0_1) := (blk_cell BK316.out 1).trans rfl
 have hcz9_2 : w6.cell? ⟨gb316, 2, none⟩ = some (.string a0_2) := (blk_cell BK316.out 2).trans rfl
 have hcz9_3 : w6.cell? ⟨gb316, 3, none⟩ = some (.slice Ao5 l0_3.length co5) := (blk_cell BK316.out 3).trans rfl
 have hfz9_0 := blk_frozen BK316.out 0
 have hfz9_1 := blk_frozen BK316.out 1
 have hfz9_2 := blk_frozen BK316.out 2
 have hfz9_3 := blk_frozen BK316.out 3
 go_upto_region 2 with (first | ((with_reducible refine gate_callee (f := 158) rfl ?_); refine goesL_ (some 8) rfl rfl Try.func158 (by kernel_rfl) rfl #[.slice Ao5 l0_3.length co5, .int .i64 a1] rfl zq1 ?_; (with_reducible refine (laws_markIntS.calls k (fun k_ => some k_ = (.slice Ao5 l0_3.length co5 : Value).ownBlock) (.slice Ao5 l0_3.length co5) l0_3 a1 t317 t318 w0 _ ?side1 ?side2 A7.out).mono ?_); (case side1 => repeat (first | (with_reducible first | exact HB.out | apply below_alloc | apply pw_below_drewN | apply below_drew1 | refine below_set ?_ GE316.out) | exact HB.out)); (case side2 => exact Kd.R_tight rfl HO0_3.out); rintro e w10 ⟨rfl, hy0, hb, hkp⟩; refine ⟨_, rfl, ?_⟩; replace BK316 := zA (blk_kept (by (with_reducible repeat (first | refine blk_drewN ?_ _ | refine blk_drew ?_ | refine blk_alloc ?_ _)); exact BK316.out) hkp (fun hs_ => (fun e_ => (Kd.R_ne HO0_3.out BK316.out zq37) e_) hs_)); replace HK := zA (Kept.then_ (S := (fun k_ => P0_3_ k_)) zq71 hkp (fun k_ hs_ => (fun e_ => (HO0_3.out.1 k_ e_.symm)) hs_)); replace HO0_3 := zA (Kd.R_reok rfl hy0 (fun k_ e_ => HO0_3.out.1 k_ e_)); replace HB := zA (hb); clear hb hkp hy0))
 (try simp only [Act.put, List.setIfInBounds_toArray, List.set_cons_zero, List.set_cons_succ])
 have H := HC8.out
 clear HC8
 simp only [Option.some.injEq, Prod.mk.injEq] at H
 obtain ⟨rfl, rfl⟩ := H
 go_wp2
 go_ret
 exact ⟨zq2, zq85, (by repeat (first | (with_reducible first | exact HB.out | apply below_alloc | apply pw_below_drewN | apply below_drew1 | refine below_set ?_ GE316.out) | exact HB.out)), zq71⟩

/-! ### laws_heldByteS: function 73 -/
def laws_heldByteS.l0 : Nat → List Int → Int → Int → Option (Int)
 | 0, _, _, _ => none
 | k + 1, x0, x1, x5 => if x5 < (x0.length : Int) then (if 0 ≤ x5 then (if (rd x0 x5) = ((x1) % 256) then (laws_heldByteS.l0 k x0 (wrap64 (x1 + 1)) (wrap64 (x5 + 1))) else (some (-1))) else (none)) else (some x1)
def laws_heldByteS.f (k : Nat) (l0 : List Int) (a1 : Int) : Option (Int) := laws_heldByteS.l0 k l0 a1 0
theorem laws_heldByteS.mono_l : ∀ k, (∀ y0 y1 y2, LeO (laws_heldByteS.l0 k y0 y1 y2) (laws_heldByteS.l0 (k + 1) y0 y1 y2))
 | 0 => fun _ _ _ r h => by simp [laws_heldByteS.l0] at h
 | k + 1 => by
  have ih0 := laws_heldByteS.mono_l k
  ·intro y0 y1 y2
   unfold laws_heldByteS.l0
   exact zR
theorem laws_heldByteS.mono : ∀ a0 a1 k, LeO (laws_heldByteS.f k a0 a1) (laws_heldByteS.f (k + 1) a0 a1) := by
 intro a0 a1 k
 have ih0 := laws_heldByteS.mono_l k
 unfold laws_heldByteS.f
 exact zR
set_option maxHeartbeats 8000000 in
set_option maxRecDepth 100000 in
theorem laws_heldByteS.calls (k : Nat) (A0 : Option Addr) (c0 : Nat) (l0 : List Int) (a1 : Int) (r : Int) (w : World) (hr0 : Kd.C (Kd.int .u8) w A0 l0.length l0) (hc0 : l0.length ≤ c0) (h : laws_heldByteS.f k l0 a1 = some r) :
  Calls Try.prog 73 #[.slice A0 l0.length c0, .int .i64 a1] w fun e w' => e = .returned (.int .i64 r) ∧ Drawn0 w w' := by
 have HR0 := zA hr0
 have HC0 := zA hc0
 clear hr0 hc0
 unfold laws_heldByteS.f at h
 have H := h
 clear h
 have HC3 := zA H
 clear H
 go_enter Try.func73, Try.ntmps73
 go_upto_region 0 with (fail)
 have H := HC3.out
 clear HC3
 have HC4 := zA H
 clear H
 go_upto_region 1 with (fail)
 have H := HC4.out
 clear HC4
 have H' := zA H
 clear H
 go_wp2
 go_loopg [1, 5] k (fun kq v1 v5 w' => ∃ (x1_1 : Int) (x5_1 : Int), v1 = .int .i64 x1_1 ∧ v5 = .int .i64 x5_1 ∧ Aside0 (laws_heldByteS.l0 kq l0 x1_1 x5_1 = some r) ∧ Aside0 (kq ≤ k) ∧ Drawn0 w w')
 case atStart => exact ⟨(a1), (0), zq8, zq8, H', ⟨Nat.le_refl _⟩, zq14⟩
 case round =>
  clear H'
  try clear p2
  obtain ⟨x1_1, x5_1, rfl, rfl, HA, HK1, ⟨m1, rfl⟩⟩ := hrel
  cases gk with
  | zero => exact absurd HA.out (by simp [laws_heldByteS.l0])
  | succ k1 =>
   have H := HA.out
   clear HA
   simp only [laws_heldByteS.l0] at H
   have HC5 := zA H
   clear H
   go_upto_region 2 with (fail)
   have H := HC5.out
   clear HC5
   by_cases c6 : x5_1 < (l0.length : Int)
   ·rw [if_pos c6] at H
    have c6b0 : decide (x5_1 < (l0.length : Int)) = true := decide_eq_true c6
    clear c6
    have HC7 := zA H
    clear H
    go_upto_region 4 with (fail)
    have H := HC7.out
    clear HC7
    obtain ⟨c8, H⟩ := zN H
    have c8b0 : decide (0 ≤ x5_1) = true := decide_eq_true c8
    clear c8
    by_cases c9 : (rd l0 x5_1) = ((x1_1) % 256)
    ·rw [if_pos c9] at H
     have c9b0 : ((rd l0 x5_1) == ((x1_1) % 256)) = true := beq_iff_eq.mpr c9
     have c9b1 : ((rd l0 x5_1) != ((x1_1) % 256)) = false := bne_eq_false_iff_eq.mpr c9
     clear c9
     have HC10 := zA H
     clear H
     have p319 : 0 ≤ (x5_1 : Int) := of_decide_eq_true zq9
     have q319 : x5_1 < (l0.length : Int) := of_decide_eq_true zq9
     obtain ⟨ad319, e319, hx319_0⟩ := Kd.at_int HR0.out x5_1 p319 q319
     cases e319
     replace p319 := eq_true p319
     replace q319 := eq_true q319
     go_upto_region 6 with (fail)
     have H := HC10.out
     clear HC10
     have HC11 := zA H
     clear H
     go_upto_region 3 with (fail)
     have H := HC11.out
     clear HC11
     have H' := zA H
     clear H
     go_wp2
     go_roundg k1
     case measure => have := HK1.out; omega
     case rel => exact ⟨(wrap64 (x1_1 + 1)), (wrap64 (x5_1 + 1)), zq8, zq8, H', ⟨zq49⟩, zq14⟩
    ·rw [if_neg c9] at H
     have c9b0 : ((rd l0 x5_1) == ((x1_1) % 256)) = false := beq_eq_false_iff_ne.mpr c9
     have c9b1 : ((rd l0 x5_1) != ((x1_1) % 256)) = true := bne_iff_ne.mpr c9
     have HC12 := zA H
     clear H
     have p319 : 0 ≤ (x5_1 : Int) := of_decide_eq_true zq9
     have q319 : x5_1 < (l0.length : Int) := of_decide_eq_true zq9
     obtain ⟨ad319, e319, hx319_0⟩ := Kd.at_int HR0.out x5_1 p319 q319
     cases e319
     replace p319 := eq_true p319
     replace q319 := eq_true q319
     go_upto_region 5 with (fail)
     have H := HC12.out
     clear HC12
     obtain rfl := Option.some.inj H
     go_wp2
     go_ret
     exact ⟨zq8, zq14⟩
   ·rw [if_neg c6] at H
    have c6b0 : decide (x5_1 < (l0.length : Int)) = false := decide_eq_false c6
    clear c6
    have HC13 := zA H
    clear H
    go_upto_region 7 with (fail)
    have H := HC13.out
    clear HC13
    obtain rfl := Option.some.inj H
    go_wp2
    go_ret
    exact ⟨zq8, zq14⟩

end Go.Proofs.Ytkcgghgkmgbphaa.PFnExactPutVal
