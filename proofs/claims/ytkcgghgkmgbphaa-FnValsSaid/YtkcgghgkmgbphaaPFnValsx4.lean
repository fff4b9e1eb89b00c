-- WRITTEN BY a turned copy of the kit's printer (wip/patch_print.py), for this claim
import Derived.Test.YtkcgghgkmgbphaaPFnValsx0
import Derived.Test.YtkcgghgkmgbphaaPFnValsx2
import Derived.Test.YtkcgghgkmgbphaaPFnValsx3
namespace Go.Proofs.Ytkcgghgkmgbphaa.PFnVals
open Go.RowKit Go.Proofs.YtkcgghgkmgbphaaW.PrintWords Go.Proofs.YtkcgghgkmgbphaaW.PrintLast Go.Proofs.YtkcgghgkmgbphaaW.PrintMore
attribute [local go_sem] max2_int min2_int max_two min_two max_three min_three max_four min_four   -- for this text's walks alone
set_option linter.unusedVariables false
set_option linter.unusedSimpArgs false

attribute [local go_sem] cell_setCell_m
/-! ### impl_PutVal: function 70 -/
def impl_PutVal.f (k : Nat) (l0 : List Int) (a1_0 : Int) (a1_1 : Int) (a1_2 : ByteArray) (l1_3 : List Int) : Option (List Int) := (impl_ValOk.f k a1_0 a1_1 a1_2 l1_3).bind fun t167 => (if t167 = true then (if a1_0 = 2 then ((impl_PutInt.f k a1_1).bind fun t171 => ((impl_PutTlv.f k l0 a1_0 t171).bind fun t174 => (some t174))) else (if a1_0 = 4 then (if a1_2.size ≤ 140737488355328 then ((impl_PutTlv.f k l0 a1_0 ((bytesOf a1_2 : List Int))).bind fun t180 => (some t180)) else (none)) else (if a1_0 = 6 then ((impl_PutOid.f k l1_3).bind fun t183 => ((impl_PutTlv.f k l0 a1_0 t183).bind fun t186 => (some t186))) else ((impl_PutTlv.f k l0 a1_0 ([] : List Int)).bind fun t189 => (some t189))))) else ((impl_copyBytes.f l0).bind fun t168 => (some t168)))
theorem impl_PutVal.mono : ∀ a0 a1 a2 a3 a4 k, LeO (impl_PutVal.f k a0 a1 a2 a3 a4) (impl_PutVal.f (k + 1) a0 a1 a2 a3 a4) := by
 intro a0 a1 a2 a3 a4 k
 unfold impl_PutVal.f
 have m0_ := @impl_PutInt.mono
 have m1_ := @impl_PutOid.mono
 have m2_ := @impl_PutTlv.mono
 have m3_ := @impl_ValOk.mono
 exact zR
set_option maxHeartbeats 8000000 in
set_option maxRecDepth 100000 in
theorem impl_PutVal.calls (k : Nat) (A0 : Option Addr) (c0 : Nat) (l0 : List Int) (a1_0 : Int) (a1_1 : Int) (a1_2 : ByteArray) (A1_3 : Option Addr) (c1_3 : Nat) (l1_3 : List Int) (r : List Int) (w : World) (hr0 : Kd.C (Kd.int .u8) w A0 l0.length l0) (hc0 : l0.length ≤ c0) (hr1_3 : Kd.C (Kd.int .i64) w A1_3 l1_3.length l1_3) (hc1_3 : l1_3.length ≤ c1_3) (h : impl_PutVal.f k l0 a1_0 a1_1 a1_2 l1_3 = some r) :
  Calls Try.prog 70 #[.slice A0 l0.length c0, .agg #[.int .i64 a1_0, .int .i64 a1_1, .string a1_2, .slice A1_3 l1_3.length c1_3]] w fun e w' => ∃ v0_ : Value, e = .returned (v0_) ∧ Kd.R (Kd.int .u8) 5 w' w.heap.size (fun _ => True) v0_ r ∧ Below w.heap.size w w' := by
 have hu76 := Try.underlying76
 have HR0 := zA hr0
 have HC0 := zA hc0
 clear hr0 hc0
 have HR1_3 := zA hr1_3
 have HC1_3 := zA hc1_3
 clear hr1_3 hc1_3
 have HB := zA (Below.refl w.heap.size w)
 unfold impl_PutVal.f at h
 have H := h
 clear h
 have HC3 := zA H
 clear H
 go_enter Try.func70, Try.ntmps70
 go_upto_region 0 with (fail)
 have H := HC3.out
 clear HC3
 have HC4 := zA H
 clear H
 go_upto_region 1 with (first | ((with_reducible refine gate_dst (N := 3) rfl ?_); refine box_event ?hg (N := 3) ?hd (cs := #[.int .i64 a1_0, .int .i64 a1_1, .string a1_2, .slice A1_3 l1_3.length c1_3]) (t := 76) ?hr ?_; (case hd => rfl); (case hg => rfl); (case hr => first | (go_simp; done) | (go_simp; rfl)); intro gb166 hg w5 hbox hb; have BK166 := zA (hbox); have GW166 := zA ((zq11 : w.heap.size ≤ gb166)); have GE166 := zA ((zq11 : w.heap.size ≤ gb166)); replace HB := zA (below_step zq0 hb); clear hb hbox hg))
 (try simp only [Act.put, List.setIfInBounds_toArray, List.set_cons_zero, List.set_cons_succ])
 have H := HC4.out
 clear HC4
 obtain ⟨t167, A6, H⟩ := zB H
 try dsimp only at H
 by_cases c7 : t167 = true
 ·subst c7
  rw [if_pos rfl] at H
  have HC8 := zA H
  clear H
  have hcz9_0 : w5.cell? ⟨gb166, 0, none⟩ = some (.int .i64 a1_0) := (blk_cell BK166.out 0).trans rfl
  have hcz9_1 : w5.cell? ⟨gb166, 1, none⟩ = some (.int .i64 a1_1) := (blk_cell BK166.out 1).trans rfl
  have hcz9_2 : w5.cell? ⟨gb166, 2, none⟩ = some (.string a1_2) := (blk_cell BK166.out 2).trans rfl
  have hcz9_3 : w5.cell? ⟨gb166, 3, none⟩ = some (.slice A1_3 l1_3.length c1_3) := (blk_cell BK166.out 3).trans rfl
  have hfz9_0 := blk_frozen BK166.out 0
  have hfz9_1 := blk_frozen BK166.out 1
  have hfz9_2 := blk_frozen BK166.out 2
  have hfz9_3 := blk_frozen BK166.out 3
  go_upto_region 3 with (first | ((with_reducible refine gate_callee (f := 90) rfl ?_); refine goesL_ (some 7) rfl rfl Try.func90 (by kernel_rfl) rfl #[.agg #[.int .i64 a1_0, .int .i64 a1_1, .string a1_2, .slice A1_3 l1_3.length c1_3]] rfl zq1 ?_; (with_reducible refine (impl_ValOk.calls k a1_0 a1_1 a1_2 _ _ l1_3 true _ ?side1 ?side2 A6.out).mono ?_); (case side1 => repeat (first | exact (Kd.C_below HR1_3.out HB.out) | (with_reducible refine Kd.C_alloc ?_ _) | (with_reducible refine Kd.C_drewN ?_ _) | (with_reducible refine Kd.C_drew ?_))); (case side2 => exact HC1_3.out); rintro e w10 ⟨rfl, hb⟩; refine ⟨_, rfl, ?_⟩; replace BK166 := zA (blk_below (g := gb166) (o := .cells #[.int .i64 a1_0, .int .i64 a1_1, .string a1_2, .slice A1_3 l1_3.length c1_3] 76 (0, 0)) zq63 hb); replace HB := zA (below_step zq17 hb); clear hb))
  (try simp only [Act.put, List.setIfInBounds_toArray, List.set_cons_zero, List.set_cons_succ])
  have H := HC8.out
  clear HC8
  have HC11 := zA H
  clear H
  go_upto_region 4 with (fail)
  have H := HC11.out
  clear HC11
  have HC12 := zA H
  clear H
  have hcz13_0 : w10.cell? ⟨gb166, 0, none⟩ = some (.int .i64 a1_0) := (blk_cell BK166.out 0).trans rfl
  have hcz13_1 : w10.cell? ⟨gb166, 1, none⟩ = some (.int .i64 a1_1) := (blk_cell BK166.out 1).trans rfl
  have hcz13_2 : w10.cell? ⟨gb166, 2, none⟩ = some (.string a1_2) := (blk_cell BK166.out 2).trans rfl
  have hcz13_3 : w10.cell? ⟨gb166, 3, none⟩ = some (.slice A1_3 l1_3.length c1_3) := (blk_cell BK166.out 3).trans rfl
  have hfz13_0 := blk_frozen BK166.out 0
  have hfz13_1 := blk_frozen BK166.out 1
  have hfz13_2 := blk_frozen BK166.out 2
  have hfz13_3 := blk_frozen BK166.out 3
  go_upto_region 5 with (fail)
  have H := HC12.out
  clear HC12
  by_cases c14 : a1_0 = 2
  ·rw [if_pos c14] at H
   have c14b0 : (a1_0 == 2) = true := beq_iff_eq.mpr c14
   have c14b1 : (a1_0 != 2) = false := bne_eq_false_iff_eq.mpr c14
   clear c14
   have HC15 := zA H
   clear H
   go_upto_region 6 with (fail)
   have H := HC15.out
   clear HC15
   obtain ⟨t171, A16, H⟩ := zB H
   try dsimp only at H
   have HC17 := zA H
   clear H
   have hcz18_0 : w10.cell? ⟨gb166, 0, none⟩ = some (.int .i64 a1_0) := (blk_cell BK166.out 0).trans rfl
   have hcz18_1 : w10.cell? ⟨gb166, 1, none⟩ = some (.int .i64 a1_1) := (blk_cell BK166.out 1).trans rfl
   have hcz18_2 : w10.cell? ⟨gb166, 2, none⟩ = some (.string a1_2) := (blk_cell BK166.out 2).trans rfl
   have hcz18_3 : w10.cell? ⟨gb166, 3, none⟩ = some (.slice A1_3 l1_3.length c1_3) := (blk_cell BK166.out 3).trans rfl
   have hfz18_0 := blk_frozen BK166.out 0
   have hfz18_1 := blk_frozen BK166.out 1
   have hfz18_2 := blk_frozen BK166.out 2
   have hfz18_3 := blk_frozen BK166.out 3
   go_upto_region 11 with (first | ((with_reducible refine gate_callee (f := 156) rfl ?_); refine goesL_ (some 17) rfl rfl Try.func156 (by kernel_rfl) rfl #[.int .i64 a1_1] rfl zq1 ?_; (with_reducible refine (impl_PutInt.calls k a1_1 t171 _ A16.out).mono ?_); rintro e w19 ⟨v172, rfl, ho0, hb⟩; refine ⟨_, rfl, ?_⟩; have HO173 := zA (Kd.R_lower ho0 (below_size zq17)); replace BK166 := zA (blk_below (g := gb166) (o := .cells #[.int .i64 a1_0, .int .i64 a1_1, .string a1_2, .slice A1_3 l1_3.length c1_3] 76 (0, 0)) zq63 hb); replace HB := zA (below_step zq17 hb); clear hb ho0))
   (try simp only [Act.put, List.setIfInBounds_toArray, List.set_cons_zero, List.set_cons_succ])
   have H := HC17.out
   clear HC17
   obtain ⟨t174, A20, H⟩ := zB H
   try dsimp only at H
   obtain rfl := Option.some.inj H
   have hcz21_0 : w19.cell? ⟨gb166, 0, none⟩ = some (.int .i64 a1_0) := (blk_cell BK166.out 0).trans rfl
   have hcz21_1 : w19.cell? ⟨gb166, 1, none⟩ = some (.int .i64 a1_1) := (blk_cell BK166.out 1).trans rfl
   have hcz21_2 : w19.cell? ⟨gb166, 2, none⟩ = some (.string a1_2) := (blk_cell BK166.out 2).trans rfl
   have hcz21_3 : w19.cell? ⟨gb166, 3, none⟩ = some (.slice A1_3 l1_3.length c1_3) := (blk_cell BK166.out 3).trans rfl
   have hfz21_0 := blk_frozen BK166.out 0
   have hfz21_1 := blk_frozen BK166.out 1
   have hfz21_2 := blk_frozen BK166.out 2
   have hfz21_3 := blk_frozen BK166.out 3
   obtain ⟨Ao22, co22, eo22⟩ := Kd.R_slice HO173.out
   subst eo22
   go_wp2_with (first | ((with_reducible refine gate_callee (f := 107) rfl ?_); refine goesL_ (some 32) rfl rfl Try.func107 (by kernel_rfl) rfl #[.slice A0 l0.length c0, .int .i64 a1_0, .slice Ao22 t171.length co22] rfl zq1 ?_; (with_reducible refine (impl_PutTlv.calls k _ _ l0 a1_0 _ _ t171 t174 _ ?side1 ?side2 ?side3 ?side4 A20.out).mono ?_); (case side1 => repeat (first | exact (Kd.C_below HR0.out HB.out) | (with_reducible refine Kd.C_alloc ?_ _) | (with_reducible refine Kd.C_drewN ?_ _) | (with_reducible refine Kd.C_drew ?_))); (case side2 => exact HC0.out); (case side3 => repeat (first | exact (Kd.R_reads' HO173.out).2.2 | (with_reducible refine Kd.C_alloc ?_ _) | (with_reducible refine Kd.C_drewN ?_ _) | (with_reducible refine Kd.C_drew ?_))); (case side4 => exact (Kd.R_reads' HO173.out).2.1); rintro e w23 ⟨v175, rfl, ho0, hb⟩; refine ⟨_, rfl, ?_⟩; have HO176 := zA (Kd.R_lower (Kd.R_new' ho0 (Kd.R_lt zq202)) (below_size zq17)); replace HO173 := zA (Kd.R_elder' zq202 (Kd.R_base ho0) hb); replace BK166 := zA (blk_below (g := gb166) (o := .cells #[.int .i64 a1_0, .int .i64 a1_1, .string a1_2, .slice A1_3 l1_3.length c1_3] 76 (0, 0)) zq63 hb); replace HB := zA (below_step zq17 hb); clear hb ho0))
   go_ret
   exact ⟨_, zq2, (by (with_reducible repeat (first | apply Kd.R_alloc | apply Kd.R_drewN | apply Kd.R_drew)); exact Kd.R_mono HO176.out (fun _ hk => trivial)), zq17⟩
  ·rw [if_neg c14] at H
   have c14b0 : (a1_0 == 2) = false := beq_eq_false_iff_ne.mpr c14
   have c14b1 : (a1_0 != 2) = true := bne_iff_ne.mpr c14
   have HC24 := zA H
   clear H
   go_upto_region 7 with (fail)
   have H := HC24.out
   clear HC24
   by_cases c25 : a1_0 = 4
   ·rw [if_pos c25] at H
    have c25b0 : (a1_0 == 4) = true := beq_iff_eq.mpr c25
    have c25b1 : (a1_0 != 4) = false := bne_eq_false_iff_eq.mpr c25
    clear c25
    have HC26 := zA H
    clear H
    go_upto_region 8 with (fail)
    have H := HC26.out
    clear HC26
    obtain ⟨c27, H⟩ := zN H
    have c27b0 := eq_true c27
    have c27b1 : decide (a1_2.size ≤ 140737488355328) = true := decide_eq_true c27
    clear c27
    obtain ⟨y177, hy177⟩ : ∃ y_ : List Int, y_ = ((bytesOf a1_2 : List Int)) := ⟨_, rfl⟩
    rw [← hy177] at H
    have Ny177 := zA hy177
    clear hy177
    have HC28 := zA H
    clear H
    have hcz29_0 : w10.cell? ⟨gb166, 0, none⟩ = some (.int .i64 a1_0) := (blk_cell BK166.out 0).trans rfl
    have hcz29_1 : w10.cell? ⟨gb166, 1, none⟩ = some (.int .i64 a1_1) := (blk_cell BK166.out 1).trans rfl
    have hcz29_2 : w10.cell? ⟨gb166, 2, none⟩ = some (.string a1_2) := (blk_cell BK166.out 2).trans rfl
    have hcz29_3 : w10.cell? ⟨gb166, 3, none⟩ = some (.slice A1_3 l1_3.length c1_3) := (blk_cell BK166.out 3).trans rfl
    have hfz29_0 := blk_frozen BK166.out 0
    have hfz29_1 := blk_frozen BK166.out 1
    have hfz29_2 := blk_frozen BK166.out 2
    have hfz29_3 := blk_frozen BK166.out 3
    go_upto_region 11 with (first | ((with_reducible refine gate_dst (N := 22) rfl ?_); refine V_conv _ ?hg (N := 22) ?hd ?hx 9 22 5 ?ho Try.underlying9 Try.underlying22 Try.underlying5 a1_2 ?hr (ok := fun k_ => w10.heap.size ≤ k_) (Nat.le_refl _) ?hm (Below.refl _ _) (Nat.le_refl _) ?_; (case hd => rfl); (case hg => rfl); (case ho => rfl); (case hr => first | rfl | (go_simp; done) | (go_simp; rfl)); (case hm => exact of_decide_eq_true zq7); intro v178 w30 ho31 hb hg_ hnew_; clear hg_ hnew_; (first | rw [← Ny177.out] at ho31 | (simp only [Int.reduceToNat] at ho31; rw [← Ny177.out] at ho31)); have HO179 := zA (Kd.V_lower (Kd.V_mono (ok' := fun k_ => k_ ≠ gb166) ho31 (fun k_ hk_ => (Kd.freshB (g := gb166) (o := .cells #[.int .i64 a1_0, .int .i64 a1_1, .string a1_2, .slice A1_3 l1_3.length c1_3] 76 (0, 0)) zq63 k_ hk_))) (below_size zq17)); replace BK166 := zA (blk_below (g := gb166) (o := .cells #[.int .i64 a1_0, .int .i64 a1_1, .string a1_2, .slice A1_3 l1_3.length c1_3] 76 (0, 0)) zq63 hb); replace HB := zA (below_step zq17 hb); clear hb ho31))
    (try simp only [Act.put, List.setIfInBounds_toArray, List.set_cons_zero, List.set_cons_succ])
    have H := HC28.out
    clear HC28
    obtain ⟨t180, A32, H⟩ := zB H
    try dsimp only at H
    obtain rfl := Option.some.inj H
    have hcz33_0 : w30.cell? ⟨gb166, 0, none⟩ = some (.int .i64 a1_0) := (blk_cell BK166.out 0).trans rfl
    have hcz33_1 : w30.cell? ⟨gb166, 1, none⟩ = some (.int .i64 a1_1) := (blk_cell BK166.out 1).trans rfl
    have hcz33_2 : w30.cell? ⟨gb166, 2, none⟩ = some (.string a1_2) := (blk_cell BK166.out 2).trans rfl
    have hcz33_3 : w30.cell? ⟨gb166, 3, none⟩ = some (.slice A1_3 l1_3.length c1_3) := (blk_cell BK166.out 3).trans rfl
    have hfz33_0 := blk_frozen BK166.out 0
    have hfz33_1 := blk_frozen BK166.out 1
    have hfz33_2 := blk_frozen BK166.out 2
    have hfz33_3 := blk_frozen BK166.out 3
    obtain ⟨Ao34, co34, eo34⟩ := Kd.V_slice HO179.out
    subst eo34
    go_wp2_with (first | ((with_reducible refine gate_callee (f := 107) rfl ?_); refine goesL_ (some 32) rfl rfl Try.func107 (by kernel_rfl) rfl #[.slice A0 l0.length c0, .int .i64 a1_0, .slice Ao34 y177.length co34] rfl zq1 ?_; (with_reducible refine (impl_PutTlv.calls k _ _ l0 a1_0 _ _ y177 t180 _ ?side1 ?side2 ?side3 ?side4 A32.out).mono ?_); (case side1 => repeat (first | exact (Kd.C_below HR0.out HB.out) | (with_reducible refine Kd.C_alloc ?_ _) | (with_reducible refine Kd.C_drewN ?_ _) | (with_reducible refine Kd.C_drew ?_))); (case side2 => exact HC0.out); (case side3 => repeat (first | exact (Kd.V_reads' HO179.out).2.2 | (with_reducible refine Kd.C_alloc ?_ _) | (with_reducible refine Kd.C_drewN ?_ _) | (with_reducible refine Kd.C_drew ?_))); (case side4 => exact (Kd.V_reads' HO179.out).2.1); rintro e w35 ⟨v181, rfl, ho0, hb⟩; refine ⟨_, rfl, ?_⟩; replace HO179 := zA (Kd.V_elder' (by (with_reducible repeat (first | apply Kd.V_alloc | apply Kd.V_drewN | apply Kd.V_drew)); exact HO179.out) (Kd.R_base ho0) hb); have HO182 := zA (Kd.R_lower ho0 (below_size zq17)); replace BK166 := zA (blk_below (g := gb166) (o := .cells #[.int .i64 a1_0, .int .i64 a1_1, .string a1_2, .slice A1_3 l1_3.length c1_3] 76 (0, 0)) zq63 hb); replace HB := zA (below_step zq17 hb); clear hb ho0))
    go_ret
    exact ⟨_, zq2, (by (with_reducible repeat (first | apply Kd.R_alloc | apply Kd.R_drewN | apply Kd.R_drew)); exact HO182.out), zq17⟩
   ·rw [if_neg c25] at H
    have c25b0 : (a1_0 == 4) = false := beq_eq_false_iff_ne.mpr c25
    have c25b1 : (a1_0 != 4) = true := bne_iff_ne.mpr c25
    have HC36 := zA H
    clear H
    go_upto_region 9 with (fail)
    have H := HC36.out
    clear HC36
    by_cases c37 : a1_0 = 6
    ·rw [if_pos c37] at H
     have c37b0 : (a1_0 == 6) = true := beq_iff_eq.mpr c37
     have c37b1 : (a1_0 != 6) = false := bne_eq_false_iff_eq.mpr c37
     clear c37
     have HC38 := zA H
     clear H
     go_upto_region 10 with (fail)
     have H := HC38.out
     clear HC38
     obtain ⟨t183, A39, H⟩ := zB H
     try dsimp only at H
     have HC40 := zA H
     clear H
     have hcz41_0 : w10.cell? ⟨gb166, 0, none⟩ = some (.int .i64 a1_0) := (blk_cell BK166.out 0).trans rfl
     have hcz41_1 : w10.cell? ⟨gb166, 1, none⟩ = some (.int .i64 a1_1) := (blk_cell BK166.out 1).trans rfl
     have hcz41_2 : w10.cell? ⟨gb166, 2, none⟩ = some (.string a1_2) := (blk_cell BK166.out 2).trans rfl
     have hcz41_3 : w10.cell? ⟨gb166, 3, none⟩ = some (.slice A1_3 l1_3.length c1_3) := (blk_cell BK166.out 3).trans rfl
     have hfz41_0 := blk_frozen BK166.out 0
     have hfz41_1 := blk_frozen BK166.out 1
     have hfz41_2 := blk_frozen BK166.out 2
     have hfz41_3 := blk_frozen BK166.out 3
     go_upto_region 11 with (first | ((with_reducible refine gate_callee (f := 108) rfl ?_); refine goesL_ (some 27) rfl rfl Try.func108 (by kernel_rfl) rfl #[.slice A1_3 l1_3.length c1_3] rfl zq1 ?_; (with_reducible refine (impl_PutOid.calls k _ _ l1_3 t183 _ ?side1 ?side2 A39.out).mono ?_); (case side1 => repeat (first | exact (Kd.C_below HR1_3.out HB.out) | (with_reducible refine Kd.C_alloc ?_ _) | (with_reducible refine Kd.C_drewN ?_ _) | (with_reducible refine Kd.C_drew ?_))); (case side2 => exact HC1_3.out); rintro e w42 ⟨v184, rfl, ho0, hb⟩; refine ⟨_, rfl, ?_⟩; have HO185 := zA (Kd.R_lower ho0 (below_size zq17)); replace BK166 := zA (blk_below (g := gb166) (o := .cells #[.int .i64 a1_0, .int .i64 a1_1, .string a1_2, .slice A1_3 l1_3.length c1_3] 76 (0, 0)) zq63 hb); replace HB := zA (below_step zq17 hb); clear hb ho0))
     (try simp only [Act.put, List.setIfInBounds_toArray, List.set_cons_zero, List.set_cons_succ])
     have H := HC40.out
     clear HC40
     obtain ⟨t186, A43, H⟩ := zB H
     try dsimp only at H
     obtain rfl := Option.some.inj H
     have hcz44_0 : w42.cell? ⟨gb166, 0, none⟩ = some (.int .i64 a1_0) := (blk_cell BK166.out 0).trans rfl
     have hcz44_1 : w42.cell? ⟨gb166, 1, none⟩ = some (.int .i64 a1_1) := (blk_cell BK166.out 1).trans rfl
     have hcz44_2 : w42.cell? ⟨gb166, 2, none⟩ = some (.string a1_2) := (blk_cell BK166.out 2).trans rfl
     have hcz44_3 : w42.cell? ⟨gb166, 3, none⟩ = some (.slice A1_3 l1_3.length c1_3) := (blk_cell BK166.out 3).trans rfl
     have hfz44_0 := blk_frozen BK166.out 0
     have hfz44_1 := blk_frozen BK166.out 1
     have hfz44_2 := blk_frozen BK166.out 2
     have hfz44_3 := blk_frozen BK166.out 3
     obtain ⟨Ao45, co45, eo45⟩ := Kd.R_slice HO185.out
     subst eo45
     go_wp2_with (first | ((with_reducible refine gate_callee (f := 107) rfl ?_); refine goesL_ (some 32) rfl rfl Try.func107 (by kernel_rfl) rfl #[.slice A0 l0.length c0, .int .i64 a1_0, .slice Ao45 t183.length co45] rfl zq1 ?_; (with_reducible refine (impl_PutTlv.calls k _ _ l0 a1_0 _ _ t183 t186 _ ?side1 ?side2 ?side3 ?side4 A43.out).mono ?_); (case side1 => repeat (first | exact (Kd.C_below HR0.out HB.out) | (with_reducible refine Kd.C_alloc ?_ _) | (with_reducible refine Kd.C_drewN ?_ _) | (with_reducible refine Kd.C_drew ?_))); (case side2 => exact HC0.out); (case side3 => repeat (first | exact (Kd.R_reads' HO185.out).2.2 | (with_reducible refine Kd.C_alloc ?_ _) | (with_reducible refine Kd.C_drewN ?_ _) | (with_reducible refine Kd.C_drew ?_))); (case side4 => exact (Kd.R_reads' HO185.out).2.1); rintro e w46 ⟨v187, rfl, ho0, hb⟩; refine ⟨_, rfl, ?_⟩; have HO188 := zA (Kd.R_lower (Kd.R_new' ho0 (Kd.R_lt zq203)) (below_size zq17)); replace HO185 := zA (Kd.R_elder' zq203 (Kd.R_base ho0) hb); replace BK166 := zA (blk_below (g := gb166) (o := .cells #[.int .i64 a1_0, .int .i64 a1_1, .string a1_2, .slice A1_3 l1_3.length c1_3] 76 (0, 0)) zq63 hb); replace HB := zA (below_step zq17 hb); clear hb ho0))
     go_ret
     exact ⟨_, zq2, (by (with_reducible repeat (first | apply Kd.R_alloc | apply Kd.R_drewN | apply Kd.R_drew)); exact Kd.R_mono HO188.out (fun _ hk => trivial)), zq17⟩
    ·rw [if_neg c37] at H
     have c37b0 : (a1_0 == 6) = false := beq_eq_false_iff_ne.mpr c37
     have c37b1 : (a1_0 != 6) = true := bne_iff_ne.mpr c37
     have HC47 := zA H
     clear H
     go_upto_region 11 with (fail)
     have H := HC47.out
     clear HC47
     obtain ⟨t189, A48, H⟩ := zB H
     try dsimp only at H
     obtain rfl := Option.some.inj H
     have hcz49_0 : w10.cell? ⟨gb166, 0, none⟩ = some (.int .i64 a1_0) := (blk_cell BK166.out 0).trans rfl
     have hcz49_1 : w10.cell? ⟨gb166, 1, none⟩ = some (.int .i64 a1_1) := (blk_cell BK166.out 1).trans rfl
     have hcz49_2 : w10.cell? ⟨gb166, 2, none⟩ = some (.string a1_2) := (blk_cell BK166.out 2).trans rfl
     have hcz49_3 : w10.cell? ⟨gb166, 3, none⟩ = some (.slice A1_3 l1_3.length c1_3) := (blk_cell BK166.out 3).trans rfl
     have hfz49_0 := blk_frozen BK166.out 0
     have hfz49_1 := blk_frozen BK166.out 1
     have hfz49_2 := blk_frozen BK166.out 2
     have hfz49_3 := blk_frozen BK166.out 3
     go_wp2_with (first | ((with_reducible refine gate_callee (f := 107) rfl ?_); refine goesL_ (some 32) rfl rfl Try.func107 (by kernel_rfl) rfl #[.slice A0 l0.length c0, .int .i64 a1_0, .slice none 0 0] rfl zq1 ?_; (refine (impl_PutTlv.calls k _ _ l0 a1_0 _ _ ([] : List Int) t189 _ ?side1 ?side2 ?side3 ?side4 A48.out).mono ?_); (case side1 => repeat (first | exact (Kd.C_below HR0.out HB.out) | (with_reducible refine Kd.C_alloc ?_ _) | (with_reducible refine Kd.C_drewN ?_ _) | (with_reducible refine Kd.C_drew ?_))); (case side2 => exact HC0.out); (case side3 => exact Kd.C_nil _ _); (case side4 => exact Nat.le_refl _); rintro e w50 ⟨v190, rfl, ho0, hb⟩; refine ⟨_, rfl, ?_⟩; have HO191 := zA (Kd.R_lower ho0 (below_size zq17)); replace BK166 := zA (blk_below (g := gb166) (o := .cells #[.int .i64 a1_0, .int .i64 a1_1, .string a1_2, .slice A1_3 l1_3.length c1_3] 76 (0, 0)) zq63 hb); replace HB := zA (below_step zq17 hb); clear hb ho0))
     go_ret
     exact ⟨_, zq2, (by (with_reducible repeat (first | apply Kd.R_alloc | apply Kd.R_drewN | apply Kd.R_drew)); exact HO191.out), zq17⟩
 ·replace c7 := Bool.eq_false_iff.mpr c7
  subst c7
  rw [if_neg zF] at H
  have HC51 := zA H
  clear H
  have hcz52_0 : w5.cell? ⟨gb166, 0, none⟩ = some (.int .i64 a1_0) := (blk_cell BK166.out 0).trans rfl
  have hcz52_1 : w5.cell? ⟨gb166, 1, none⟩ = some (.int .i64 a1_1) := (blk_cell BK166.out 1).trans rfl
  have hcz52_2 : w5.cell? ⟨gb166, 2, none⟩ = some (.string a1_2) := (blk_cell BK166.out 2).trans rfl
  have hcz52_3 : w5.cell? ⟨gb166, 3, none⟩ = some (.slice A1_3 l1_3.length c1_3) := (blk_cell BK166.out 3).trans rfl
  have hfz52_0 := blk_frozen BK166.out 0
  have hfz52_1 := blk_frozen BK166.out 1
  have hfz52_2 := blk_frozen BK166.out 2
  have hfz52_3 := blk_frozen BK166.out 3
  go_upto_region 2 with (first | ((with_reducible refine gate_callee (f := 90) rfl ?_); refine goesL_ (some 7) rfl rfl Try.func90 (by kernel_rfl) rfl #[.agg #[.int .i64 a1_0, .int .i64 a1_1, .string a1_2, .slice A1_3 l1_3.length c1_3]] rfl zq1 ?_; (with_reducible refine (impl_ValOk.calls k a1_0 a1_1 a1_2 _ _ l1_3 false _ ?side1 ?side2 A6.out).mono ?_); (case side1 => repeat (first | exact (Kd.C_below HR1_3.out HB.out) | (with_reducible refine Kd.C_alloc ?_ _) | (with_reducible refine Kd.C_drewN ?_ _) | (with_reducible refine Kd.C_drew ?_))); (case side2 => exact HC1_3.out); rintro e w53 ⟨rfl, hb⟩; refine ⟨_, rfl, ?_⟩; replace BK166 := zA (blk_below (g := gb166) (o := .cells #[.int .i64 a1_0, .int .i64 a1_1, .string a1_2, .slice A1_3 l1_3.length c1_3] 76 (0, 0)) zq63 hb); replace HB := zA (below_step zq17 hb); clear hb))
  (try simp only [Act.put, List.setIfInBounds_toArray, List.set_cons_zero, List.set_cons_succ])
  have H := HC51.out
  clear HC51
  obtain ⟨t168, A54, H⟩ := zB H
  try dsimp only at H
  obtain rfl := Option.some.inj H
  go_wp2_with (first | ((with_reducible refine gate_callee (f := 155) rfl ?_); refine goesL_ (some 10) rfl rfl Try.func155 (by kernel_rfl) rfl #[.slice A0 l0.length c0] rfl zq1 ?_; (with_reducible refine (impl_copyBytes.calls _ _ l0 t168 _ ?side1 ?side2 A54.out).mono ?_); (case side1 => repeat (first | exact (Kd.C_below HR0.out HB.out) | (with_reducible refine Kd.C_alloc ?_ _) | (with_reducible refine Kd.C_drewN ?_ _) | (with_reducible refine Kd.C_drew ?_))); (case side2 => exact HC0.out); rintro e w55 ⟨v169, rfl, ho0, hb⟩; refine ⟨_, rfl, ?_⟩; have HO170 := zA (Kd.R_lower ho0 (below_size zq17)); replace BK166 := zA (blk_below (g := gb166) (o := .cells #[.int .i64 a1_0, .int .i64 a1_1, .string a1_2, .slice A1_3 l1_3.length c1_3] 76 (0, 0)) zq63 hb); replace HB := zA (below_step zq17 hb); clear hb ho0))
  go_ret
  exact ⟨_, zq2, (by (with_reducible repeat (first | apply Kd.R_alloc | apply Kd.R_drewN | apply Kd.R_drew)); exact HO170.out), zq17⟩

/-- A state of type 170 at block g of W; what its slices lead to came in by w0. -/
def IsS170 (w0 W : World) (g : Nat) (f0 : List Int) (f1 : Int) (f2 : Int) : Prop := ∃ A0 c0, W.heap[g]? = some (.cells #[.slice A0 f0.length c0, .int .i64 f1, .int .i64 f2] 170 (0, 0)) ∧ w0.heap.size ≤ g ∧ (Kd.C (Kd.int .u8) w0 A0 f0.length f0 ∧ f0.length ≤ c0)
theorem IsS170.grown {w0 W : World} {g : Nat} {f0 : List Int} {f1 : Int} {f2 : Int} {W1 : World} {row : Option Nat} (h : IsS170 w0 W g f0 f1 f2) (hw : W.grownBy W1 row) (hne : some g ≠ row) : IsS170 w0 W1 g f0 f1 f2 := by
 obtain ⟨A0, c0, hb, hg, hr0⟩ := h
 exact ⟨A0, c0, blk_grown hb hw hne, hg, hr0⟩
theorem IsS170.own_neN {w0 W : World} {g : Nat} {f0 : List Int} {f1 : Int} {f2 : Int} {α : Type} {d : Kd α} {e : Nat} {base : Nat} {ok : Nat → Prop} {v : Value} {xs : List α} (h : IsS170 w0 W g f0 f1 f2) (ho : Kd.N d e W base ok v xs) (ht : e ≠ 170) : some g ≠ v.ownBlock := by
 obtain ⟨A0, c0, hb, hg, hr0⟩ := h
 exact Kd.N_ne ho hb ht
theorem IsS170.fresh {w0 W : World} {g : Nat} {f0 : List Int} {f1 : Int} {f2 : Int} (h : IsS170 w0 W g f0 f1 f2) : ∀ k, W.heap.size ≤ k → k ≠ g := by
 obtain ⟨A0, c0, hb, hg, hr0⟩ := h
 exact Kd.freshB hb
theorem IsS170.kept {w0 W : World} {g : Nat} {f0 : List Int} {f1 : Int} {f2 : Int} {W1 : World} {S : Nat → Prop} (h : IsS170 w0 W g f0 f1 f2) (hk : Kept W W1 S) (hne : ¬ S g) : IsS170 w0 W1 g f0 f1 f2 := by
 obtain ⟨A0, c0, hb, hg, hr0⟩ := h
 exact ⟨A0, c0, blk_kept hb hk hne, hg, hr0⟩
theorem IsS170.below {w0 W : World} {g : Nat} {f0 : List Int} {f1 : Int} {f2 : Int} {W1 : World} (h : IsS170 w0 W g f0 f1 f2) (hw : Below W.heap.size W W1) : IsS170 w0 W1 g f0 f1 f2 := h.grown (grown_of_below hw none) zq134
theorem IsS170.alloc {w0 W : World} {g : Nat} {f0 : List Int} {f1 : Int} {f2 : Int} (h : IsS170 w0 W g f0 f1 f2) (o : Obj) : IsS170 w0 (W.alloc o) g f0 f1 f2 := h.below (below_alloc (Below.refl _ _) o)
theorem IsS170.drewN {w0 W : World} {g : Nat} {f0 : List Int} {f1 : Int} {f2 : Int} (h : IsS170 w0 W g f0 f1 f2) (m : Nat) : IsS170 w0 (W.drewN m) g f0 f1 f2 := h
theorem IsS170.drew {w0 W : World} {g : Nat} {f0 : List Int} {f1 : Int} {f2 : Int} (h : IsS170 w0 W g f0 f1 f2) : IsS170 w0 W.drew g f0 f1 f2 := h
theorem IsS170.at_ {w0 W : World} {g : Nat} {f0 : List Int} {f1 : Int} {f2 : Int} {w' : World} {m : Nat} (hq : W.drewN m = w') (h : IsS170 w0 W g f0 f1 f2) : IsS170 w0 w' g f0 f1 f2 := by subst hq; exact IsS170.drewN h m
theorem IsS170.apart {w0 W : World} {g : Nat} {f0 : List Int} {f1 : Int} {f2 : Int} {α : Type} {d : Kd α} {e : Nat} {base : Nat} {ok : Nat → Prop} {v : Value} {xs : List α} (h : IsS170 w0 W g f0 f1 f2) (ho : d.R e W base ok v xs) (ht : ∀ q, q ∈ e :: d.E → q ≠ 170) : d.R e W base (fun k => ok k ∧ k ≠ g) v xs := by
 obtain ⟨A0, c0, hb, hg, hr0⟩ := h
 exact Kd.R_types ho hb ht
theorem IsS170.own_ne {w0 W : World} {g : Nat} {f0 : List Int} {f1 : Int} {f2 : Int} {α : Type} {d : Kd α} {e : Nat} {base : Nat} {ok : Nat → Prop} {v : Value} {xs : List α} (h : IsS170 w0 W g f0 f1 f2) (ho : d.R e W base ok v xs) (ht : e ≠ 170) : some g ≠ v.ownBlock := by
 obtain ⟨A0, c0, hb, hg, hr0⟩ := h
 exact Kd.R_ne ho hb ht
theorem IsS170.apartQ {w0 W : World} {g : Nat} {f0 : List Int} {f1 : Int} {f2 : Int} {α : Type} {d : Kd α} {e : Nat} {base : Nat} {ok : Nat → Prop} {v : Value} {xs : List α} (h : IsS170 w0 W g f0 f1 f2) (ho : d.Q e W base ok v xs) (ht : ∀ q, q ∈ e :: d.E → q ≠ 170) : d.Q e W base (fun k => ok k ∧ k ≠ g) v xs := by
 obtain ⟨A0, c0, hb, hg, hr0⟩ := h
 exact Kd.Q_types ho hb ht
theorem IsS170.own_neQ {w0 W : World} {g : Nat} {f0 : List Int} {f1 : Int} {f2 : Int} {α : Type} {d : Kd α} {e : Nat} {base : Nat} {ok : Nat → Prop} {v : Value} {xs : List α} (h : IsS170 w0 W g f0 f1 f2) (ho : d.Q e W base ok v xs) (ht : e ≠ 170) : some g ≠ v.ownBlock := by
 obtain ⟨A0, c0, hb, hg, hr0⟩ := h
 exact Kd.Q_ne ho hb ht
theorem IsS170.apartS {w0 W : World} {g : Nat} {f0 : List Int} {f1 : Int} {f2 : Int} {α : Type} {d : Kd α} {e : Nat} {base : Nat} {ok : Nat → Prop} {v : Value} {xs : List α} (h : IsS170 w0 W g f0 f1 f2) (ho : d.S e W base ok v xs) (ht : ∀ q, q ∈ e :: d.E → q ≠ 170) : d.S e W base (fun k => ok k ∧ k ≠ g) v xs := by
 obtain ⟨A0, c0, hb, hg, hr0⟩ := h
 exact Kd.S_types ho hb ht
theorem IsS170.own_neS {w0 W : World} {g : Nat} {f0 : List Int} {f1 : Int} {f2 : Int} {α : Type} {d : Kd α} {e : Nat} {base : Nat} {ok : Nat → Prop} {v : Value} {xs : List α} (h : IsS170 w0 W g f0 f1 f2) (ho : d.S e W base ok v xs) (ht : e ≠ 170) : some g ≠ v.ownBlock := by
 obtain ⟨A0, c0, hb, hg, hr0⟩ := h
 exact Kd.S_ne ho hb ht
theorem IsS170.lt {w0 W : World} {g : Nat} {f0 : List Int} {f1 : Int} {f2 : Int} (h : IsS170 w0 W g f0 f1 f2) : g < W.heap.size := by
 obtain ⟨A0, c0, hb, hg, hr0⟩ := h
 exact blk_lt hb
theorem IsS170.ge {w0 W : World} {g : Nat} {f0 : List Int} {f1 : Int} {f2 : Int} (h : IsS170 w0 W g f0 f1 f2) : w0.heap.size ≤ g := by
 obtain ⟨A0, c0, hb, hg, hr0⟩ := h
 exact hg
theorem IsS170.ne_blk {w0 W : World} {g : Nat} {f0 : List Int} {f1 : Int} {f2 : Int} {a : Nat} {cs : Array Value} {t : TypeId} {fr : Nat × Nat} (h : IsS170 w0 W g f0 f1 f2) (hb2 : W.heap[a]? = some (.cells cs t fr)) (ht : t ≠ 170) : g ≠ a := by
 obtain ⟨A0, c0, hb, hg, hr0⟩ := h
 rintro rfl
 rw [hb] at hb2
 injection hb2 with hb2
 injection hb2 with _ ht2
 exact ht ht2.symm
theorem IsS170.far {w0 W : World} {g : Nat} {f0 : List Int} {f1 : Int} {f2 : Int} {p : Addr} (h : IsS170 w0 W g f0 f1 f2) (hne : g ≠ p.block) (u : Value) : IsS170 w0 (W.setCell p u) g f0 f1 f2 := by
 obtain ⟨A0, c0, hb, hg, hr0⟩ := h
 exact ⟨A0, c0, blk_far hb hne u, hg, hr0⟩
theorem cellS170_0 {W : World} {g : Nat} {A0 : Option Addr} {c0 : Nat} {f0 : List Int} {f1 : Int} {f2 : Int} (h : W.heap[g]? = some (.cells #[.slice A0 f0.length c0, .int .i64 f1, .int .i64 f2] 170 (0, 0))) : W.cell? ⟨g, 0, none⟩ = some (.slice A0 f0.length c0) := (blk_cell h 0).trans rfl
theorem cellS170_1 {W : World} {g : Nat} {A0 : Option Addr} {c0 : Nat} {f0 : List Int} {f1 : Int} {f2 : Int} (h : W.heap[g]? = some (.cells #[.slice A0 f0.length c0, .int .i64 f1, .int .i64 f2] 170 (0, 0))) : W.cell? ⟨g, 1, none⟩ = some (.int .i64 f1) := (blk_cell h 1).trans rfl
theorem IsS170.set_1 {w0 W : World} {g : Nat} {f0 : List Int} {f1 : Int} {f2 : Int} (h : IsS170 w0 W g f0 f1 f2) (x : Int) : IsS170 w0 (W.setCell ⟨g, 1, none⟩ (.int .i64 x)) g f0 x f2 := by
 obtain ⟨A0, c0, hb, hg, hr0⟩ := h
 exact ⟨A0, c0, (by simpa using blk_set hb 1 (.int .i64 x)), hg, hr0⟩
theorem cellS170_2 {W : World} {g : Nat} {A0 : Option Addr} {c0 : Nat} {f0 : List Int} {f1 : Int} {f2 : Int} (h : W.heap[g]? = some (.cells #[.slice A0 f0.length c0, .int .i64 f1, .int .i64 f2] 170 (0, 0))) : W.cell? ⟨g, 2, none⟩ = some (.int .i64 f2) := (blk_cell h 2).trans rfl
theorem IsS170.set_2 {w0 W : World} {g : Nat} {f0 : List Int} {f1 : Int} {f2 : Int} (h : IsS170 w0 W g f0 f1 f2) (x : Int) : IsS170 w0 (W.setCell ⟨g, 2, none⟩ (.int .i64 x)) g f0 f1 x := by
 obtain ⟨A0, c0, hb, hg, hr0⟩ := h
 exact ⟨A0, c0, (by simpa using blk_set hb 2 (.int .i64 x)), hg, hr0⟩
theorem IsS170.new (w0 W : World) (A0 : Option Addr) (c0 : Nat) (f0 : List Int) (f1 : Int) (f2 : Int) (hB : Below w0.heap.size w0 W) (hr0 : Kd.C (Kd.int .u8) w0 A0 f0.length f0 ∧ f0.length ≤ c0) : IsS170 w0 (W.alloc (.cells #[.slice A0 f0.length c0, .int .i64 f1, .int .i64 f2] 170)) W.heap.size f0 f1 f2 := ⟨A0, c0, (by simpa using heap_alloc_new W _), hB.size, hr0⟩

/-! ### spec_l1New: function 104 -/
def spec_l1New.l0 : Nat → List Int → Int → Int → Option (List Int × Int × Int)
 | 0, _, _, _ => none
 | k + 1, x0, x3, x4 => if x4 < (x0.length : Int) then (if x4 < 4000 then (if 0 ≤ x4 then (spec_l1New.l0 k x0 (Go.bits .and .i64 (wrap64 ((wrap64 ((wrap64 (x3 * 137)) + (wrap64 (rd x0 x4)))) + 11)) 1073741823) (wrap64 (x4 + 1))) else (none)) else (some (x0, 0, x3))) else (some (x0, 0, x3))
def spec_l1New.f (k : Nat) (l0 : List Int) : Option (List Int × Int × Int) := spec_l1New.l0 k l0 (wrap64 (762762 + (l0.length : Int))) 0
theorem spec_l1New.mono_l : ∀ k, (∀ y0 y1 y2, LeO (spec_l1New.l0 k y0 y1 y2) (spec_l1New.l0 (k + 1) y0 y1 y2))
 | 0 => fun _ _ _ r h => by simp [spec_l1New.l0] at h
 | k + 1 => by
  have ih0 := spec_l1New.mono_l k
  ·intro y0 y1 y2
   unfold spec_l1New.l0
   exact zR
theorem spec_l1New.mono : ∀ a0 k, LeO (spec_l1New.f k a0) (spec_l1New.f (k + 1) a0) := by
 intro a0 k
 have ih0 := spec_l1New.mono_l k
 unfold spec_l1New.f
 exact zR
set_option maxHeartbeats 8000000 in
set_option maxRecDepth 100000 in
theorem spec_l1New.calls (k : Nat) (A0 : Option Addr) (c0 : Nat) (l0 : List Int) (r1 : List Int) (r2 : Int) (r3 : Int) (w0 w : World) (hB : Below w0.heap.size w0 w) (hr0 : Kd.C (Kd.int .u8) w0 A0 l0.length l0) (hc0 : l0.length ≤ c0) (h : spec_l1New.f k l0 = some (r1, r2, r3)) :
  Calls Try.prog 104 #[.slice A0 l0.length c0] w fun e w' => ∃ g_ : Nat, e = .returned (.pointer (some ⟨g_, 0, none⟩)) ∧ IsS170 w0 w' g_ r1 r2 r3 ∧ Below w0.heap.size w0 w' ∧ Below w.heap.size w w' := by
 have hu170 := Try.underlying170
 have HR0 := zA hr0
 have HC0 := zA hc0
 clear hr0 hc0
 have HBW := zA (Below.refl w.heap.size w)
 have HW0 := zA hB.size
 have HB := zA hB
 clear hB
 unfold spec_l1New.f at h
 have H := h
 clear h
 have HC2 := zA H
 clear H
 go_enter Try.func104, Try.ntmps104
 go_upto_region 0 with (fail)
 have H := HC2.out
 clear HC2
 have HC3 := zA H
 clear H
 go_upto_region 1 with (fail)
 have H := HC3.out
 clear HC3
 have HC4 := zA H
 clear H
 go_upto_region 2 with (fail)
 have H := HC4.out
 clear HC4
 have H' := zA H
 clear H
 go_wp2
 go_loopg [3, 4] k (fun kq v3 v4 w' => ∃ (x3_1 : Int) (x4_1 : Int), v3 = .int .i64 x3_1 ∧ v4 = .int .i64 x4_1 ∧ Aside0 (spec_l1New.l0 kq l0 x3_1 x4_1 = some (r1, r2, r3)) ∧ Aside0 (kq ≤ k) ∧ Aside0 (Below w.heap.size w w') ∧ Aside0 (Below w0.heap.size w0 w'))
 case atStart => exact ⟨(wrap64 (762762 + (l0.length : Int))), (0), zq10, zq10, H', ⟨Nat.le_refl _⟩, ⟨zq113⟩, ⟨zq0⟩⟩
 case round =>
  clear H'
  try clear c1
  try clear p2
  obtain ⟨x3_1, x4_1, rfl, rfl, HA, HK1, HBW, HB⟩ := hrel
  cases gk with
  | zero => exact absurd HA.out (by simp [spec_l1New.l0])
  | succ k1 =>
   have H := HA.out
   clear HA
   simp only [spec_l1New.l0] at H
   have HC5 := zA H
   clear H
   go_upto_region 3 with (fail)
   have H := HC5.out
   clear HC5
   by_cases c6 : x4_1 < (l0.length : Int)
   ·rw [if_pos c6] at H
    have c6b0 : decide (x4_1 < (l0.length : Int)) = true := decide_eq_true c6
    clear c6
    by_cases c7 : x4_1 < 4000
    ·rw [if_pos c7] at H
     have c7b0 : decide (x4_1 < 4000) = true := decide_eq_true c7
     clear c7
     have HC8 := zA H
     clear H
     go_upto_region 5 with (fail)
     have H := HC8.out
     clear HC8
     obtain ⟨c9, H⟩ := zN H
     have c9b0 : decide (0 ≤ x4_1) = true := decide_eq_true c9
     clear c9
     have HC10 := zA H
     clear H
     have p192 : 0 ≤ (x4_1 : Int) := of_decide_eq_true zq7
     have q192 : x4_1 < (l0.length : Int) := of_decide_eq_true zq7
     obtain ⟨ad192, e192, hx192_0⟩ := Kd.at_int HR0.out x4_1 p192 q192
     cases e192
     replace hx192_0 := pw_cell_below HB.out hx192_0
     replace p192 := eq_true p192
     replace q192 := eq_true q192
     go_upto_region 4 with (fail)
     have H := HC10.out
     clear HC10
     have H' := zA H
     clear H
     go_wp2
     go_roundg k1
     case measure => have := HK1.out; omega
     case rel => exact ⟨(Go.bits .and .i64 (wrap64 ((wrap64 ((wrap64 (x3_1 * 137)) + (wrap64 (rd l0 x4_1)))) + 11)) 1073741823), (wrap64 (x4_1 + 1)), zq10, zq10, H', ⟨zq148⟩, ⟨zq113⟩, ⟨zq0⟩⟩
    ·rw [if_neg c7] at H
     have c7b0 : decide (x4_1 < 4000) = false := decide_eq_false c7
     clear c7
     have HC11 := zA H
     clear H
     go_upto_region 6 with (fail)
     have H := HC11.out
     clear HC11
     simp only [Option.some.injEq, Prod.mk.injEq] at H
     obtain ⟨rfl, rfl, rfl⟩ := H
     go_wp2_with (first | ((with_reducible refine gate_dst (N := 31) rfl ?_); refine box_event ?hg (N := 31) ?hd (cs := #[.slice A0 l0.length c0, .int .i64 0, .int .i64 x3_1]) (t := 170) ?hr ?_; (case hd => rfl); (case hg => rfl); (case hr => first | (go_simp; done) | (go_simp; rfl)); intro gb193 hg w12 hbox hb; replace HB := zA (below_step zq0 hb); have BK193 := zA (hbox); have GW193 := zA ((zq133 : w.heap.size ≤ gb193)); have GE193 := zA ((Nat.le_trans HW0.out (zq133 : w.heap.size ≤ gb193) : w0.heap.size ≤ gb193)); replace HBW := zA (below_step HBW.out hb); clear hb hbox hg))
     go_ret
     exact ⟨_, rfl, (show IsS170 w0 _ gb193 l0 0 x3_1 from ⟨_, _, (by (with_reducible repeat (first | refine blk_drewN ?_ _ | refine blk_drew ?_ | refine blk_alloc ?_ _)); exact BK193.out), GE193.out, ⟨HR0.out, HC0.out⟩⟩), (by repeat (first | (with_reducible first | exact HB.out | apply below_alloc | apply pw_below_drewN | apply below_drew1 | refine below_set ?_ GE193.out) | exact HB.out)), (by repeat (first | (with_reducible first | exact HBW.out | apply below_alloc | apply pw_below_drewN | apply below_drew1 | refine below_set ?_ GW193.out) | exact HBW.out))⟩
   ·rw [if_neg c6] at H
    have c6b0 : decide (x4_1 < (l0.length : Int)) = false := decide_eq_false c6
    clear c6
    have HC13 := zA H
    clear H
    go_upto_region 6 with (fail)
    have H := HC13.out
    clear HC13
    simp only [Option.some.injEq, Prod.mk.injEq] at H
    obtain ⟨rfl, rfl, rfl⟩ := H
    go_wp2_with (first | ((with_reducible refine gate_dst (N := 31) rfl ?_); refine box_event ?hg (N := 31) ?hd (cs := #[.slice A0 l0.length c0, .int .i64 0, .int .i64 x3_1]) (t := 170) ?hr ?_; (case hd => rfl); (case hg => rfl); (case hr => first | (go_simp; done) | (go_simp; rfl)); intro gb194 hg w14 hbox hb; replace HB := zA (below_step zq0 hb); have BK194 := zA (hbox); have GW194 := zA ((zq133 : w.heap.size ≤ gb194)); have GE194 := zA ((Nat.le_trans HW0.out (zq133 : w.heap.size ≤ gb194) : w0.heap.size ≤ gb194)); replace HBW := zA (below_step HBW.out hb); clear hb hbox hg))
    go_ret
    exact ⟨_, rfl, (show IsS170 w0 _ gb194 l0 0 x3_1 from ⟨_, _, (by (with_reducible repeat (first | refine blk_drewN ?_ _ | refine blk_drew ?_ | refine blk_alloc ?_ _)); exact BK194.out), GE194.out, ⟨HR0.out, HC0.out⟩⟩), (by repeat (first | (with_reducible first | exact HB.out | apply below_alloc | apply pw_below_drewN | apply below_drew1 | refine below_set ?_ GE194.out) | exact HB.out)), (by repeat (first | (with_reducible first | exact HBW.out | apply below_alloc | apply pw_below_drewN | apply below_drew1 | refine below_set ?_ GW194.out) | exact HBW.out))⟩

/-! ### spec_l1Byte: function 184 -/
def spec_l1Byte.f (s0_0 : List Int) (s0_1 : Int) (s0_2 : Int) : Option (Int × Int × Int) := if s0_1 < (s0_0.length : Int) then (if 0 ≤ s0_1 then (some (Go.bits .and .i64 (wrap64 ((Go.bits .and .i64 (Go.bits .xor .i64 ((wrap64 ((wrap64 (s0_2 * 6364136223846793005)) + 1442695040888963407)) / 8589934592) ((wrap64 ((wrap64 (s0_2 * 6364136223846793005)) + 1442695040888963407)) / 140737488355328)) 255) + (wrap64 (rd s0_0 s0_1)))) 255, wrap64 (s0_1 + 1), wrap64 ((wrap64 (s0_2 * 6364136223846793005)) + 1442695040888963407))) else (none)) else (some (Go.bits .and .i64 (Go.bits .xor .i64 ((wrap64 ((wrap64 (s0_2 * 6364136223846793005)) + 1442695040888963407)) / 8589934592) ((wrap64 ((wrap64 (s0_2 * 6364136223846793005)) + 1442695040888963407)) / 140737488355328)) 255, s0_1, wrap64 ((wrap64 (s0_2 * 6364136223846793005)) + 1442695040888963407)))
set_option maxHeartbeats 8000000 in
set_option maxRecDepth 100000 in
theorem spec_l1Byte.calls (g : Nat) (s0_0 : List Int) (s0_1 : Int) (s0_2 : Int) (r1 : Int) (r2 : Int) (r3 : Int) (w0 w : World) (hI : IsS170 w0 w g s0_0 s0_1 s0_2) (hB : Below w0.heap.size w0 w) (h : spec_l1Byte.f s0_0 s0_1 s0_2 = some (r1, r2, r3)) :
  Calls Try.prog 184 #[.pointer (some ⟨g, 0, none⟩)] w fun e w' => e = .returned (.int .i64 r1) ∧ IsS170 w0 w' g s0_0 r2 r3 ∧ Below w0.heap.size w0 w' ∧ KeepBut w w' g none := by
 have HI0 := zA hI
 have HK := zA (KeepBut.refl w g none)
 have HL := zA hB.size
 clear hI
 have HW0 := zA hB.size
 have HB := zA hB
 clear hB
 unfold spec_l1Byte.f at h
 have H := h
 clear h
 by_cases c2 : s0_1 < (s0_0.length : Int)
 ·rw [if_pos c2] at H
  have c2b0 : decide (s0_1 < (s0_0.length : Int)) = true := decide_eq_true c2
  clear c2
  obtain ⟨c3, H⟩ := zN H
  have c3b0 : decide (0 ≤ s0_1) = true := decide_eq_true c3
  clear c3
  simp only [Option.some.injEq, Prod.mk.injEq] at H
  obtain ⟨rfl, rfl, rfl⟩ := H
  obtain ⟨ASz4_0, cSz4_0, HGz4, hgz4, ⟨HSz4_0, HSKz4_0⟩⟩ := HI0.out
  have HSCz4_0 := zA HSKz4_0
  clear HSKz4_0
  have hcz4_0 := cellS170_0 HGz4
  have hcz4_1 := cellS170_1 HGz4
  have hcz4_2 := cellS170_2 HGz4
  have hfz4_1 := blk_frozen HGz4 1
  have hfz4_2 := blk_frozen HGz4 2
  clear HGz4 hgz4
  have p195 : 0 ≤ (s0_1 : Int) := of_decide_eq_true zq7
  have q195 : s0_1 < (s0_0.length : Int) := of_decide_eq_true zq7
  obtain ⟨ad195, e195, hx195_0⟩ := Kd.at_int HSz4_0 s0_1 p195 q195
  cases e195
  have hn195_0 : ad195.block ≠ g := Nat.ne_of_lt (Nat.lt_of_lt_of_le (by have := World.block_lt_of_cell? _ _ hx195_0; first | rwa [add_block] at this | exact this) (IsS170.ge HI0.out))
  replace hx195_0 := pw_cell_below HB.out hx195_0
  replace hx195_0 := (cell_far (p := ⟨g, 2, none⟩) (by first | (rw [add_block]; exact hn195_0) | (show (Addr.add _ _).block ≠ _; rw [add_block]; exact hn195_0) | exact hn195_0) (.int .i64 (wrap64 ((wrap64 (s0_2 * 6364136223846793005)) + 1442695040888963407)))).trans hx195_0
  (try have hy195_0 := fun (n_ : Nat) => (show (((w.drewN n_).setCell ⟨g, 2, none⟩ (.int .i64 (wrap64 ((wrap64 (s0_2 * 6364136223846793005)) + 1442695040888963407))))).cell? _ = some _ from hx195_0))
  clear hn195_0
  replace p195 := eq_true p195
  replace q195 := eq_true q195
  go_enter Try.func184, Try.ntmps184
  go_wp2
  repeat (go_quiet (fail); try go_wp2)
  go_ret
  exact ⟨zq2, zq4, zq5, zq3⟩
 ·rw [if_neg c2] at H
  have c2b0 : decide (s0_1 < (s0_0.length : Int)) = false := decide_eq_false c2
  clear c2
  simp only [Option.some.injEq, Prod.mk.injEq] at H
  obtain ⟨rfl, rfl, rfl⟩ := H
  obtain ⟨ASz5_0, cSz5_0, HGz5, hgz5, ⟨HSz5_0, HSKz5_0⟩⟩ := HI0.out
  have HSCz5_0 := zA HSKz5_0
  clear HSKz5_0
  have hcz5_0 := cellS170_0 HGz5
  have hcz5_1 := cellS170_1 HGz5
  have hcz5_2 := cellS170_2 HGz5
  have hfz5_1 := blk_frozen HGz5 1
  have hfz5_2 := blk_frozen HGz5 2
  clear HGz5 hgz5
  go_enter Try.func184, Try.ntmps184
  go_wp2
  repeat (go_quiet (fail); try go_wp2)
  go_ret
  exact ⟨zq2, zq4, zq5, zq3⟩

/-! ### spec_l1Below: function 131 -/
def spec_l1Below.f (s0_0 : List Int) (s0_1 : Int) (s0_2 : Int) (a1 : Int) : Option (Int × Int × Int) := if a1 ≤ 0 then (some (0, s0_1, s0_2)) else (if a1 ≤ 256 then ((spec_l1Byte.f s0_0 s0_1 s0_2).bind fun bt196 => (if a1 = 0 then (none) else (some (Int.tmod bt196.1 a1, bt196.2.1, bt196.2.2)))) else ((spec_l1Byte.f s0_0 s0_1 s0_2).bind fun bt199 => ((spec_l1Byte.f s0_0 bt199.2.1 bt199.2.2).bind fun bt202 => ((spec_l1Byte.f s0_0 bt202.2.1 bt202.2.2).bind fun bt205 => (if a1 = 0 then (none) else (some (Int.tmod (wrap64 ((wrap64 ((wrap64 (bt199.1 * 65536)) + (wrap64 (bt202.1 * 256)))) + bt205.1)) a1, bt205.2.1, bt205.2.2)))))))
set_option maxHeartbeats 8000000 in
set_option maxRecDepth 100000 in
theorem spec_l1Below.calls (g : Nat) (s0_0 : List Int) (s0_1 : Int) (s0_2 : Int) (a1 : Int) (r1 : Int) (r2 : Int) (r3 : Int) (w0 w : World) (hI : IsS170 w0 w g s0_0 s0_1 s0_2) (hB : Below w0.heap.size w0 w) (h : spec_l1Below.f s0_0 s0_1 s0_2 a1 = some (r1, r2, r3)) :
  Calls Try.prog 131 #[.pointer (some ⟨g, 0, none⟩), .int .i64 a1] w fun e w' => e = .returned (.int .i64 r1) ∧ IsS170 w0 w' g s0_0 r2 r3 ∧ Below w0.heap.size w0 w' ∧ KeepBut w w' g none := by
 have HI0 := zA hI
 have HK := zA (KeepBut.refl w g none)
 have HL := zA hB.size
 clear hI
 have HW0 := zA hB.size
 have HB := zA hB
 clear hB
 unfold spec_l1Below.f at h
 have H := h
 clear h
 have HC3 := zA H
 clear H
 go_enter Try.func131, Try.ntmps131
 go_upto_region 0 with (fail)
 have H := HC3.out
 clear HC3
 have HC4 := zA H
 clear H
 go_upto_region 1 with (fail)
 have H := HC4.out
 clear HC4
 by_cases c5 : a1 ≤ 0
 ·rw [if_pos c5] at H
  have c5b0 : decide (a1 ≤ 0) = true := decide_eq_true c5
  clear c5
  have HC6 := zA H
  clear H
  go_upto_region 2 with (fail)
  have H := HC6.out
  clear HC6
  simp only [Option.some.injEq, Prod.mk.injEq] at H
  obtain ⟨rfl, rfl, rfl⟩ := H
  go_wp2
  go_ret
  exact ⟨zq2, zq4, zq5, zq3⟩
 ·rw [if_neg c5] at H
  have c5b0 : decide (a1 ≤ 0) = false := decide_eq_false c5
  clear c5
  have HC7 := zA H
  clear H
  go_upto_region 3 with (fail)
  have H := HC7.out
  clear HC7
  by_cases c8 : a1 ≤ 256
  ·rw [if_pos c8] at H
   have c8b0 : decide (a1 ≤ 256) = true := decide_eq_true c8
   clear c8
   have HC9 := zA H
   clear H
   go_upto_region 4 with (fail)
   have H := HC9.out
   clear HC9
   obtain ⟨⟨t196, t197, t198⟩, A10, H⟩ := zB H
   try dsimp only at H
   obtain ⟨c11, H⟩ := zM H
   have c11b0 : (a1 == 0) = false := beq_eq_false_iff_ne.mpr c11
   have c11b1 : (a1 != 0) = true := bne_iff_ne.mpr c11
   simp only [Option.some.injEq, Prod.mk.injEq] at H
   obtain ⟨rfl, rfl, rfl⟩ := H
   go_wp2_with (first | ((with_reducible refine gate_callee (f := 184) rfl ?_); refine goesL_ (some 13) rfl rfl Try.func184 (by kernel_rfl) rfl #[.pointer (some ⟨g, 0, none⟩)] rfl zq1 ?_; (with_reducible refine (spec_l1Byte.calls g s0_0 s0_1 s0_2 t196 t197 t198 w0 _ ?side1 ?side2 A10.out).mono ?_); (case side1 => repeat (first | (with_reducible first | exact HI0.out | apply IsS170.alloc | apply IsS170.drewN | apply IsS170.drew | apply IsS170.set_1 | apply IsS170.set_2) | exact HI0.out)); (case side2 => repeat (first | (with_reducible first | exact HB.out | apply below_alloc | apply pw_below_drewN | apply below_drew1 | refine below_set ?_ (IsS170.ge HI0.out)) | exact HB.out)); rintro e w12 ⟨rfl, hi, hb, hk⟩; refine ⟨_, rfl, ?_⟩; replace HK := zA (KeepBut.trans zq3 hk (.inl rfl)); replace HB := zA (hb); replace HI0 := zA (hi); clear hb hk hi))
   go_ret
   exact ⟨zq2, zq4, zq5, zq3⟩
  ·rw [if_neg c8] at H
   have c8b0 : decide (a1 ≤ 256) = false := decide_eq_false c8
   clear c8
   have HC13 := zA H
   clear H
   go_upto_region 5 with (fail)
   have H := HC13.out
   clear HC13
   obtain ⟨⟨t199, t200, t201⟩, A14, H⟩ := zB H
   try dsimp only at H
   have HC15 := zA H
   clear H
   go_upto_region 6 with (first | ((with_reducible refine gate_callee (f := 184) rfl ?_); refine goesL_ (some 17) rfl rfl Try.func184 (by kernel_rfl) rfl #[.pointer (some ⟨g, 0, none⟩)] rfl zq1 ?_; (with_reducible refine (spec_l1Byte.calls g s0_0 s0_1 s0_2 t199 t200 t201 w0 _ ?side1 ?side2 A14.out).mono ?_); (case side1 => repeat (first | (with_reducible first | exact HI0.out | apply IsS170.alloc | apply IsS170.drewN | apply IsS170.drew | apply IsS170.set_1 | apply IsS170.set_2) | exact HI0.out)); (case side2 => repeat (first | (with_reducible first | exact HB.out | apply below_alloc | apply pw_below_drewN | apply below_drew1 | refine below_set ?_ (IsS170.ge HI0.out)) | exact HB.out)); rintro e w16 ⟨rfl, hi, hb, hk⟩; refine ⟨_, rfl, ?_⟩; replace HK := zA (KeepBut.trans zq3 hk (.inl rfl)); replace HB := zA (hb); replace HI0 := zA (hi); clear hb hk hi))
   (try simp only [Act.put, List.setIfInBounds_toArray, List.set_cons_zero, List.set_cons_succ])
   have H := HC15.out
   clear HC15
   obtain ⟨⟨t202, t203, t204⟩, A17, H⟩ := zB H
   try dsimp only at H
   have HC18 := zA H
   clear H
   go_upto_region 7 with (first | ((with_reducible refine gate_callee (f := 184) rfl ?_); refine goesL_ (some 19) rfl rfl Try.func184 (by kernel_rfl) rfl #[.pointer (some ⟨g, 0, none⟩)] rfl zq1 ?_; (with_reducible refine (spec_l1Byte.calls g s0_0 t200 t201 t202 t203 t204 w0 _ ?side1 ?side2 A17.out).mono ?_); (case side1 => repeat (first | (with_reducible first | exact HI0.out | apply IsS170.alloc | apply IsS170.drewN | apply IsS170.drew | apply IsS170.set_1 | apply IsS170.set_2) | exact HI0.out)); (case side2 => repeat (first | (with_reducible first | exact HB.out | apply below_alloc | apply pw_below_drewN | apply below_drew1 | refine below_set ?_ (IsS170.ge HI0.out)) | exact HB.out)); rintro e w19 ⟨rfl, hi, hb, hk⟩; refine ⟨_, rfl, ?_⟩; replace HK := zA (KeepBut.trans zq3 hk (.inl rfl)); replace HB := zA (hb); replace HI0 := zA (hi); clear hb hk hi))
   (try simp only [Act.put, List.setIfInBounds_toArray, List.set_cons_zero, List.set_cons_succ])
   have H := HC18.out
   clear HC18
   obtain ⟨⟨t205, t206, t207⟩, A20, H⟩ := zB H
   try dsimp only at H
   have HC21 := zA H
   clear H
   go_upto_region 8 with (first | ((with_reducible refine gate_callee (f := 184) rfl ?_); refine goesL_ (some 21) rfl rfl Try.func184 (by kernel_rfl) rfl #[.pointer (some ⟨g, 0, none⟩)] rfl zq1 ?_; (with_reducible refine (spec_l1Byte.calls g s0_0 t203 t204 t205 t206 t207 w0 _ ?side1 ?side2 A20.out).mono ?_); (case side1 => repeat (first | (with_reducible first | exact HI0.out | apply IsS170.alloc | apply IsS170.drewN | apply IsS170.drew | apply IsS170.set_1 | apply IsS170.set_2) | exact HI0.out)); (case side2 => repeat (first | (with_reducible first | exact HB.out | apply below_alloc | apply pw_below_drewN | apply below_drew1 | refine below_set ?_ (IsS170.ge HI0.out)) | exact HB.out)); rintro e w22 ⟨rfl, hi, hb, hk⟩; refine ⟨_, rfl, ?_⟩; replace HK := zA (KeepBut.trans zq3 hk (.inl rfl)); replace HB := zA (hb); replace HI0 := zA (hi); clear hb hk hi))
   (try simp only [Act.put, List.setIfInBounds_toArray, List.set_cons_zero, List.set_cons_succ])
   have H := HC21.out
   clear HC21
   obtain ⟨c23, H⟩ := zM H
   have c23b0 : (a1 == 0) = false := beq_eq_false_iff_ne.mpr c23
   have c23b1 : (a1 != 0) = true := bne_iff_ne.mpr c23
   simp only [Option.some.injEq, Prod.mk.injEq] at H
   obtain ⟨rfl, rfl, rfl⟩ := H
   go_wp2
   go_ret
   exact ⟨zq2, zq4, zq5, zq3⟩

/-! ### spec_l1Int: function 140 -/
def spec_l1Int.f (s0_0 : List Int) (s0_1 : Int) (s0_2 : Int) (l1 : List Int) : Option (Int × Int × Int) := (spec_l1Below.f s0_0 s0_1 s0_2 (l1.length : Int)).bind fun bt208 => (if 0 ≤ bt208.1 then (if bt208.1 < (l1.length : Int) then (some (rd l1 bt208.1, bt208.2.1, bt208.2.2)) else (none)) else (none))
set_option maxHeartbeats 8000000 in
set_option maxRecDepth 100000 in
theorem spec_l1Int.calls (g : Nat) (s0_0 : List Int) (s0_1 : Int) (s0_2 : Int) (A1 : Option Addr) (c1 : Nat) (l1 : List Int) (r1 : Int) (r2 : Int) (r3 : Int) (w0 w : World) (hI : IsS170 w0 w g s0_0 s0_1 s0_2) (hB : Below w0.heap.size w0 w) (hr1 : Kd.C (Kd.int .i64) w A1 l1.length l1) (hc1 : l1.length ≤ c1) (hf1 : ∀ ad, A1 = some ad → 0 < l1.length → ad.block ≠ g) (h : spec_l1Int.f s0_0 s0_1 s0_2 l1 = some (r1, r2, r3)) :
  Calls Try.prog 140 #[.pointer (some ⟨g, 0, none⟩), .slice A1 l1.length c1] w fun e w' => e = .returned (.int .i64 r1) ∧ IsS170 w0 w' g s0_0 r2 r3 ∧ Below w0.heap.size w0 w' ∧ KeepBut w w' g none := by
 have HR1 := zA hr1
 have HC1 := zA hc1
 clear hr1 hc1
 have HI0 := zA hI
 have HK := zA (KeepBut.refl w g none)
 have HL := zA hB.size
 clear hI
 have HW0 := zA hB.size
 have HB := zA hB
 clear hB
 unfold spec_l1Int.f at h
 have H := h
 clear h
 have HC3 := zA H
 clear H
 go_enter Try.func140, Try.ntmps140
 go_upto_region 0 with (fail)
 have H := HC3.out
 clear HC3
 have HC4 := zA H
 clear H
 go_upto_region 1 with (fail)
 have H := HC4.out
 clear HC4
 obtain ⟨⟨t208, t209, t210⟩, A5, H⟩ := zB H
 try dsimp only at H
 obtain ⟨c6, H⟩ := zN H
 have c6b0 : decide (0 ≤ t208) = true := decide_eq_true c6
 clear c6
 obtain ⟨c7, H⟩ := zN H
 have c7b0 : decide (t208 < (l1.length : Int)) = true := decide_eq_true c7
 clear c7
 simp only [Option.some.injEq, Prod.mk.injEq] at H
 obtain ⟨rfl, rfl, rfl⟩ := H
 go_wp2_with (first | ((with_reducible refine gate_callee (f := 131) rfl ?_); refine goesL_ (some 9) rfl rfl Try.func131 (by kernel_rfl) rfl #[.pointer (some ⟨g, 0, none⟩), .int .i64 (l1.length : Int)] rfl zq1 ?_; (with_reducible refine (spec_l1Below.calls g s0_0 s0_1 s0_2 (l1.length : Int) t208 t209 t210 w0 _ ?side1 ?side2 A5.out).mono ?_); (case side1 => repeat (first | (with_reducible first | exact HI0.out | apply IsS170.alloc | apply IsS170.drewN | apply IsS170.drew | apply IsS170.set_1 | apply IsS170.set_2) | exact HI0.out)); (case side2 => repeat (first | (with_reducible first | exact HB.out | apply below_alloc | apply pw_below_drewN | apply below_drew1 | refine below_set ?_ (IsS170.ge HI0.out)) | exact HB.out)); rintro e w8 ⟨rfl, hi, hb, hk⟩; refine ⟨_, rfl, ?_⟩; replace HK := zA (KeepBut.trans zq3 hk (.inl rfl)); replace HB := zA (hb); replace HI0 := zA (hi); clear hb hk hi; have p211 : 0 ≤ (t208 : Int) := of_decide_eq_true zq7; have q211 : t208 < (l1.length : Int) := of_decide_eq_true zq7; obtain ⟨ad211, e211, hx211_0⟩ := Kd.at_int HR1.out t208 p211 q211; cases e211; replace hx211_0 := keep_cell HK.out hx211_0 (by first | (rw [add_block]; exact hf1 _ rfl zq144) | exact hf1 _ rfl zq144 | exact hf1 ad211 rfl zq144); replace p211 := eq_true p211; replace q211 := eq_true q211))
 go_ret
 exact ⟨zq2, zq4, zq5, zq3⟩

/-! ### spec_l1Bytes: function 190 -/
def spec_l1Bytes.l0 : Nat → Int → List Int → Int → List Int → Int → Int → Option (List Int × Int × Int)
 | 0, _, _, _, _, _, _ => none
 | k + 1, x1, x5, x6, x1000, x1001, x1002 => if x6 < x1 then ((spec_l1Byte.f x1000 x1001 x1002).bind fun bt215 => (if x5.length < 140737488355328 then (spec_l1Bytes.l0 k x1 (x5 ++ [(bt215.1) % 256]) (wrap64 (x6 + 1)) x1000 bt215.2.1 bt215.2.2) else (none))) else (some (x5, x1001, x1002))
def spec_l1Bytes.f (k : Nat) (s0_0 : List Int) (s0_1 : Int) (s0_2 : Int) (a1 : Int) : Option (List Int × Int × Int) := spec_l1Bytes.l0 k a1 (([] : List Int)) 0 s0_0 s0_1 s0_2
theorem spec_l1Bytes.mono_l : ∀ k, (∀ y0 y1 y2 y3 y4 y5, LeO (spec_l1Bytes.l0 k y0 y1 y2 y3 y4 y5) (spec_l1Bytes.l0 (k + 1) y0 y1 y2 y3 y4 y5))
 | 0 => fun _ _ _ _ _ _ r h => by simp [spec_l1Bytes.l0] at h
 | k + 1 => by
  have ih0 := spec_l1Bytes.mono_l k
  ·intro y0 y1 y2 y3 y4 y5
   unfold spec_l1Bytes.l0
   exact zR
theorem spec_l1Bytes.mono : ∀ a0 a1 a2 a3 k, LeO (spec_l1Bytes.f k a0 a1 a2 a3) (spec_l1Bytes.f (k + 1) a0 a1 a2 a3) := by
 intro a0 a1 a2 a3 k
 have ih0 := spec_l1Bytes.mono_l k
 unfold spec_l1Bytes.f
 exact zR
set_option maxHeartbeats 8000000 in
set_option maxRecDepth 100000 in
theorem spec_l1Bytes.calls (k : Nat) (g : Nat) (s0_0 : List Int) (s0_1 : Int) (s0_2 : Int) (a1 : Int) (r1 : List Int) (r2 : Int) (r3 : Int) (w0 w : World) (hI : IsS170 w0 w g s0_0 s0_1 s0_2) (hB : Below w0.heap.size w0 w) (h : spec_l1Bytes.f k s0_0 s0_1 s0_2 a1 = some (r1, r2, r3)) :
  Calls Try.prog 190 #[.pointer (some ⟨g, 0, none⟩), .int .i64 a1] w fun e w' => ∃ v0_ : Value, e = .returned (v0_) ∧ Kd.R (Kd.int .u8) 5 w' w.heap.size (fun _ => True) v0_ r1 ∧ IsS170 w0 w' g s0_0 r2 r3 ∧ Below w0.heap.size w0 w' ∧ KeepBut w w' g none := by
 have HI0 := zA hI
 have HK := zA (KeepBut.refl w g none)
 have HL := zA hB.size
 clear hI
 have HW0 := zA hB.size
 have HB := zA hB
 clear hB
 unfold spec_l1Bytes.f at h
 have H := h
 clear h
 have HC3 := zA H
 clear H
 go_enter Try.func190, Try.ntmps190
 go_upto_region 0 with (fail)
 have H := HC3.out
 clear HC3
 have HC4 := zA H
 clear H
 go_upto_region 1 with (fail)
 have H := HC4.out
 clear HC4
 obtain ⟨y212, hy212⟩ : ∃ y_ : List Int, y_ = (([] : List Int)) := ⟨_, rfl⟩
 rw [← hy212] at H
 have Ny212 := zA hy212
 clear hy212
 have HC5 := zA H
 clear H
 go_upto_region 2 with (first | ((with_reducible refine gate_dst (N := 7) rfl ?_); refine Kd.R_lit (Kd.int .u8) _ 5 ?hg (N := 7) ?hd (xs := ([] : List Int)) (inner := []) (ok := fun _ => True) (okp := fun _ => True) ?hr ?hp (fun _ hk => hk) trivial (Below.refl _ _) (Nat.le_refl _) zq134 ?_; (case hd => rfl); (case hg => rfl); (case hr => first | (go_simp; done) | (go_simp; rfl)); (case hp => exact (Reps.none _ _)); intro v213 w6 ho7 hb hg_ hnew_; clear hg_ hnew_; (first | rw [← Ny212.out] at ho7 | (simp only [Int.reduceToNat] at ho7; rw [← Ny212.out] at ho7)); have HO214 := zA (Kd.R_lower ho7 (keep_size (w := w) (g := g) (row := none) zq3)); replace HK := zA (KeepBut.trans zq3 (KeepBut.of_below hb g none) (.inl rfl)); replace HB := zA (below_step zq5 hb); replace HI0 := zA (IsS170.below zq4 hb); clear hb ho7))
 (try simp only [Act.put, List.setIfInBounds_toArray, List.set_cons_zero, List.set_cons_succ])
 have H := HC5.out
 clear HC5
 have H' := zA H
 clear H
 go_wp2
 go_loopg [5, 6] k (fun kq v5 v6 w' => ∃ (x5_1 : List Int) (x6_1 : Int) (x1001_1 : Int) (x1002_1 : Int), v6 = .int .i64 x6_1 ∧ Aside0 (spec_l1Bytes.l0 kq a1 x5_1 x6_1 s0_0 x1001_1 x1002_1 = some (r1, r2, r3)) ∧ Aside0 (kq ≤ k) ∧ Aside0 (Kd.R (Kd.int .u8) 5 w' w.heap.size (fun _ => True) v5 x5_1) ∧ Aside0 (IsS170 w0 w' g s0_0 x1001_1 x1002_1) ∧ Aside0 (KeepBut w w' g none) ∧ Aside0 (Below w0.heap.size w0 w'))
 case atStart => exact ⟨(y212), (0), (s0_1), (s0_2), zq10, H', ⟨Nat.le_refl _⟩, ⟨(by (with_reducible repeat (first | apply Kd.R_alloc | apply Kd.R_drewN | apply Kd.R_drew)); exact HO214.out)⟩, ⟨zq4⟩, ⟨zq3⟩, ⟨zq5⟩⟩
 case round =>
  clear H'
  try clear c1
  try clear p2
  obtain ⟨x5_1, x6_1, x1001_1, x1002_1, rfl, HA, HK1, HO_5, HI0, HK, HB⟩ := hrel
  cases gk with
  | zero => exact absurd HA.out (by simp [spec_l1Bytes.l0])
  | succ k1 =>
   have H := HA.out
   clear HA
   simp only [spec_l1Bytes.l0] at H
   have HC8 := zA H
   clear H
   go_upto_region 3 with (fail)
   have H := HC8.out
   clear HC8
   by_cases c9 : x6_1 < a1
   ·rw [if_pos c9] at H
    have c9b0 : decide (x6_1 < a1) = true := decide_eq_true c9
    clear c9
    have HC10 := zA H
    clear H
    go_upto_region 5 with (fail)
    have H := HC10.out
    clear HC10
    obtain ⟨⟨t215, t216, t217⟩, A11, H⟩ := zB H
    try dsimp only at H
    obtain ⟨c12, H⟩ := zN H
    have LMc12 := zA c12
    clear c12
    obtain ⟨y218, hy218⟩ : ∃ y_ : List Int, y_ = (x5_1 ++ [(t215) % 256]) := ⟨_, rfl⟩
    rw [← hy218] at H
    have Ny218 := zA hy218
    clear hy218
    have HC13 := zA H
    clear H
    go_upto_region 4 with (first | ((with_reducible refine gate_callee (f := 184) rfl ?_); refine goesL_ (some 15) rfl rfl Try.func184 (by kernel_rfl) rfl #[.pointer (some ⟨g, 0, none⟩)] rfl zq1 ?_; (with_reducible refine (spec_l1Byte.calls g s0_0 x1001_1 x1002_1 t215 t216 t217 w0 _ ?side1 ?side2 A11.out).mono ?_); (case side1 => repeat (first | (with_reducible first | exact HI0.out | apply IsS170.alloc | apply IsS170.drewN | apply IsS170.drew | apply IsS170.set_1 | apply IsS170.set_2) | exact HI0.out)); (case side2 => repeat (first | (with_reducible first | exact HB.out | apply below_alloc | apply pw_below_drewN | apply below_drew1 | refine below_set ?_ (IsS170.ge HI0.out)) | exact HB.out)); rintro e w14 ⟨rfl, hi, hb, hk⟩; refine ⟨_, rfl, ?_⟩; replace HO_5 := zA (Kd.R_mono (Kd.R_keep (IsS170.apart (show IsS170 w0 _ g s0_0 x1001_1 x1002_1 from by repeat (first | (with_reducible first | exact HI0.out | apply IsS170.alloc | apply IsS170.drewN | apply IsS170.drew | apply IsS170.set_1 | apply IsS170.set_2) | exact HI0.out)) zq51 zq39) hk (fun _ h => h.2)) (fun _ h => h.1)); replace HK := zA (KeepBut.trans zq3 hk (.inl rfl)); replace HB := zA (hb); replace HI0 := zA (hi); clear hb hk hi) | ((with_reducible refine gate_builtin (b := .append) (xs := #[.tmp 13, .tmp 17]) rfl ?_); at_builtin; refine Kd.R_append (Kd.int .u8) w.heap.size rfl (.tmp 13) (.tmp 17) 22 5 (.int .u8 0) 1 rfl Try.underlying22 info5 rfl zq39 zq144 u5 x5_1 ((t215) % 256) [.int .u8 ((t215) % 256)] (fun _ => True) (fun _ => False) rfl rfl ?aP (fun _ hk => hk.elim) ?aF ?aO (Below.refl _ _) ?aS ?aL ?_; (case aP => exact rfl); (case aF => exact (fun _ _ => trivial)); (case aO => exact zq51); (case aS => exact (keep_size (w := w) (g := g) (row := none) zq3)); (case aL => have := LMc12.out; omega); intro v219 w15 ho hb hg hat; rw [← Ny218.out] at ho; replace HB := zA (below_weaken zq5 HL.out hb); replace HI0 := zA (IsS170.grown zq4 hg (IsS170.own_ne HI0.out HO_5.out zq39)); replace HK := zA (KeepBut.trans zq3 (KeepBut.of_grown hg g) (Kd.R_base2 HO_5.out)); have HO220 := zA (ho); clear HO_5; clear ho hb hg hat))
    (try simp only [Act.put, List.setIfInBounds_toArray, List.set_cons_zero, List.set_cons_succ])
    have H := HC13.out
    clear HC13
    have H' := zA H
    clear H
    go_wp2
    go_roundg k1
    case measure => have := HK1.out; omega
    case rel => exact ⟨(y218), (wrap64 (x6_1 + 1)), (t216), (t217), zq10, H', ⟨zq148⟩, ⟨(by (with_reducible repeat (first | apply Kd.R_alloc | apply Kd.R_drewN | apply Kd.R_drew)); exact HO220.out)⟩, ⟨zq4⟩, ⟨zq3⟩, ⟨zq5⟩⟩
   ·rw [if_neg c9] at H
    have c9b0 : decide (x6_1 < a1) = false := decide_eq_false c9
    clear c9
    have HC16 := zA H
    clear H
    go_upto_region 6 with (fail)
    have H := HC16.out
    clear HC16
    simp only [Option.some.injEq, Prod.mk.injEq] at H
    obtain ⟨rfl, rfl, rfl⟩ := H
    go_wp2
    go_ret
    exact ⟨_, zq2, zq51, zq4, zq5, zq3⟩

end Go.Proofs.Ytkcgghgkmgbphaa.PFnVals
