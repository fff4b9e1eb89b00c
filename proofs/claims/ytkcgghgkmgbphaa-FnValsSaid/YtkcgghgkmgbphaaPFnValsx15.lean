-- WRITTEN BY a turned copy of the kit's printer (wip/patch_print.py), for this claim
import Derived.Test.YtkcgghgkmgbphaaPFnValsx0
import Derived.Test.YtkcgghgkmgbphaaPFnValsx4
import Derived.Test.YtkcgghgkmgbphaaPFnValsx6
import Derived.Test.YtkcgghgkmgbphaaPFnValsx14
namespace Go.Proofs.Ytkcgghgkmgbphaa.PFnVals
open Go.RowKit Go.Proofs.YtkcgghgkmgbphaaW.PrintWords Go.Proofs.YtkcgghgkmgbphaaW.PrintLast Go.Proofs.YtkcgghgkmgbphaaW.PrintMore
attribute [local go_sem] max2_int min2_int max_two min_two max_three min_three max_four min_four   -- for this text's walks alone
set_option linter.unusedVariables false
set_option linter.unusedSimpArgs false

attribute [local go_sem] cell_setCell_m
/-! ### spec_DrawSameVal: function 92 -/
def spec_DrawSameVal.f (k : Nat) (l0 : List Int) : Option (Int × Int × ByteArray × List Int × Int × Int × ByteArray × List Int) := (spec_l1New.f k l0).bind fun bt673 => ((spec_l3Any.f k bt673.1 bt673.2.1 bt673.2.2).bind fun bt677 => ((spec_l1Once.f bt673.1 bt677.2.2.2.2.1 bt677.2.2.2.2.2 3).bind fun bt686 => (if bt686.1 = true then (some (bt677.1, bt677.2.1, bt677.2.2.1, bt677.2.2.2.1, bt677.1, bt677.2.1, bt677.2.2.1, bt677.2.2.2.1)) else ((spec_l3Any.f k bt673.1 bt686.2.1 bt686.2.2).bind fun bt689 => (some (bt677.1, bt677.2.1, bt677.2.2.1, bt677.2.2.2.1, bt689.1, bt689.2.1, bt689.2.2.1, bt689.2.2.2.1))))))
theorem spec_DrawSameVal.mono : ∀ a0 k, LeO (spec_DrawSameVal.f k a0) (spec_DrawSameVal.f (k + 1) a0) := by
 intro a0 k
 unfold spec_DrawSameVal.f
 have m0_ := @spec_l1New.mono
 have m1_ := @spec_l3Any.mono
 exact zR
set_option maxHeartbeats 8000000 in
set_option maxRecDepth 100000 in
theorem spec_DrawSameVal.calls (k : Nat) (A0 : Option Addr) (c0 : Nat) (l0 : List Int) (r1 : Int) (r2 : Int) (r3 : ByteArray) (r4 : List Int) (r5 : Int) (r6 : Int) (r7 : ByteArray) (r8 : List Int) (w : World) (hr0 : Kd.C (Kd.int .u8) w A0 l0.length l0) (hc0 : l0.length ≤ c0) (h : spec_DrawSameVal.f k l0 = some (r1, r2, r3, r4, r5, r6, r7, r8)) :
  Calls Try.prog 92 #[.slice A0 l0.length c0] w fun e w' => ∃ v3_ v7_ : Value, e = .returned (.tuple #[.agg #[.int .i64 r1, .int .i64 r2, .string r3, v3_], .agg #[.int .i64 r5, .int .i64 r6, .string r7, v7_]]) ∧ Kd.V (Kd.int .i64) 3 w' w.heap.size (fun k_ => (w.heap.size ≤ k_)) v3_ r4 ∧ Kd.V (Kd.int .i64) 3 w' w.heap.size (fun k_ => (w.heap.size ≤ k_)) v7_ r8 ∧ Below w.heap.size w w' := by
 have hu76 := Try.underlying76
 have HR0 := zA hr0
 have HC0 := zA hc0
 clear hr0 hc0
 have HB := zA (Below.refl w.heap.size w)
 unfold spec_DrawSameVal.f at h
 have H := h
 clear h
 have HC2 := zA H
 clear H
 go_enter Try.func92, Try.ntmps92
 go_upto_region 0 with (fail)
 have H := HC2.out
 clear HC2
 have HC3 := zA H
 clear H
 go_upto_region 1 with (first | ((with_reducible refine gate_dst (N := 2) rfl ?_); refine box_event ?hg (N := 2) ?hd (cs := #[.int .i64 0, .int .i64 0, .string (⟨#[]⟩ : ByteArray), .slice none 0 0]) (t := 76) ?hr ?_; (case hd => rfl); (case hg => rfl); (case hr => first | (go_simp; done) | (go_simp; rfl)); intro gb671 hg w4 hbox hb; have BK671 := zA (hbox); have GW671 := zA ((zq11 : w.heap.size ≤ gb671)); have GE671 := zA ((zq11 : w.heap.size ≤ gb671)); replace HB := zA (below_step zq0 hb); clear hb hbox hg) | ((with_reducible refine gate_dst (N := 3) rfl ?_); refine box_event ?hg (N := 3) ?hd (cs := #[.int .i64 0, .int .i64 0, .string (⟨#[]⟩ : ByteArray), .slice none 0 0]) (t := 76) ?hr ?_; (case hd => rfl); (case hg => rfl); (case hr => first | (go_simp; done) | (go_simp; rfl)); intro gb672 hg w5 hbox hb; have BK672 := zA (hbox); have GW672 := zA ((zq195 : w.heap.size ≤ gb672)); have GE672 := zA ((zq195 : w.heap.size ≤ gb672)); replace HB := zA (below_step zq158 hb); have NB671_672 := zA ((zq164 : gb671 ≠ gb672)); have NB672_671 := zA ((zq165 : gb672 ≠ gb671)); replace BK671 := zA (blk_below (g := gb671) (o := .cells #[.int .i64 0, .int .i64 0, .string (⟨#[]⟩ : ByteArray), .slice none 0 0] 76 (0, 0)) zq65 hb); clear hb hbox hg))
 (try simp only [Act.put, List.setIfInBounds_toArray, List.set_cons_zero, List.set_cons_succ])
 have H := HC3.out
 clear HC3
 obtain ⟨⟨t673, t674, t675⟩, A6, H⟩ := zB H
 try dsimp only at H
 have HC7 := zA H
 clear H
 go_upto_region 2 with (first | ((with_reducible refine gate_callee (f := 104) rfl ?_); refine goesL_ (some 7) rfl rfl Try.func104 (by kernel_rfl) rfl #[.slice A0 l0.length c0] rfl zq1 ?_; (with_reducible refine (spec_l1New.calls k _ _ l0 t673 t674 t675 w _ ?side1 ?side2 ?side3 A6.out).mono ?_); (case side1 => repeat (first | (with_reducible first | exact HB.out | apply below_alloc | apply pw_below_drewN | apply below_drew1 | refine below_set ?_ GE671.out | refine below_set ?_ GE672.out) | exact HB.out)); (case side2 => exact HR0.out); (case side3 => exact HC0.out); rintro e w8 ⟨g676, rfl, hi, hb, hb2⟩; refine ⟨_, rfl, ?_⟩; replace HB := zA (hb); have HI676 := zA (hi); have NB676_671 := zA (IsS170.ne_blk hi (blk_below (g := gb671) (o := .cells #[.int .i64 0, .int .i64 0, .string (⟨#[]⟩ : ByteArray), .slice none 0 0] 76 (0, 0)) zq65 hb2) zq39); have NB671_676 := zA (Ne.symm (IsS170.ne_blk hi (blk_below (g := gb671) (o := .cells #[.int .i64 0, .int .i64 0, .string (⟨#[]⟩ : ByteArray), .slice none 0 0] 76 (0, 0)) zq65 hb2) zq39)); replace BK671 := zA (blk_below (g := gb671) (o := .cells #[.int .i64 0, .int .i64 0, .string (⟨#[]⟩ : ByteArray), .slice none 0 0] 76 (0, 0)) zq65 hb2); have NB676_672 := zA (IsS170.ne_blk hi (blk_below (g := gb672) (o := .cells #[.int .i64 0, .int .i64 0, .string (⟨#[]⟩ : ByteArray), .slice none 0 0] 76 (0, 0)) zq91 hb2) zq39); have NB672_676 := zA (Ne.symm (IsS170.ne_blk hi (blk_below (g := gb672) (o := .cells #[.int .i64 0, .int .i64 0, .string (⟨#[]⟩ : ByteArray), .slice none 0 0] 76 (0, 0)) zq91 hb2) zq39)); replace BK672 := zA (blk_below (g := gb672) (o := .cells #[.int .i64 0, .int .i64 0, .string (⟨#[]⟩ : ByteArray), .slice none 0 0] 76 (0, 0)) zq91 hb2); clear hb hb2 hi))
 (try simp only [Act.put, List.setIfInBounds_toArray, List.set_cons_zero, List.set_cons_succ])
 have H := HC7.out
 clear HC7
 obtain ⟨⟨t677, t678, t679, t680, t683, t684⟩, A9, H⟩ := zB H
 try dsimp only at H
 have HC10 := zA H
 clear H
 go_upto_region 3 with (first | ((with_reducible refine gate_callee (f := 167) rfl ?_); refine goesL_ (some 9) rfl rfl Try.func167 (by kernel_rfl) rfl #[.pointer (some ⟨g676, 0, none⟩)] rfl zq1 ?_; (with_reducible refine (spec_l3Any.calls k g676 t673 t674 t675 t677 t678 t679 t680 t683 t684 w _ ?side1 ?side2 A9.out).mono ?_); (case side1 => repeat (first | (with_reducible first | exact HI676.out | apply IsS170.alloc | apply IsS170.drewN | apply IsS170.drew | apply IsS170.set_1 | apply IsS170.set_2 | refine IsS170.far ?_ NB676_671.out _ | refine IsS170.far ?_ NB676_672.out _) | exact HI676.out)); (case side2 => repeat (first | (with_reducible first | exact HB.out | apply below_alloc | apply pw_below_drewN | apply below_drew1 | refine below_set ?_ (IsS170.ge HI676.out) | refine below_set ?_ GE671.out | refine below_set ?_ GE672.out) | exact HB.out)); rintro e w11 ⟨v681, rfl, ho0, hi, hb, hk⟩; refine ⟨_, rfl, ?_⟩; replace BK671 := zA (KeepBut.blk hk (g' := gb671) (o := .cells #[.int .i64 0, .int .i64 0, .string (⟨#[]⟩ : ByteArray), .slice none 0 0] 76 (0, 0)) zq65 NB671_676.out zq134); replace BK672 := zA (KeepBut.blk hk (g' := gb672) (o := .cells #[.int .i64 0, .int .i64 0, .string (⟨#[]⟩ : ByteArray), .slice none 0 0] 76 (0, 0)) zq91 NB672_676.out zq134); have HO682 := zA (Kd.R_lower (Kd.R_newM (M := fun k_ => (w.heap.size ≤ k_)) ho0 (below_size zq81) (fun k_ h_ => h_)) (below_size zq81)); replace HB := zA (hb); replace HI676 := zA (hi); clear hb hk hi ho0) | ((with_reducible refine gate_dst (N := 5) rfl ?_); refine box_event ?hg (N := 5) ?hd (cs := #[.int .i64 0, .int .i64 0, .string (⟨#[]⟩ : ByteArray), .slice none 0 0]) (t := 76) ?hr ?_; (case hd => rfl); (case hg => rfl); (case hr => first | (go_simp; done) | (go_simp; rfl)); intro gb685 hg w12 hbox hb; replace HO682 := zA (Kd.R_below zq188 hb); have BK685 := zA (hbox); have GW685 := zA ((zq168 : w.heap.size ≤ gb685)); have GE685 := zA ((zq168 : w.heap.size ≤ gb685)); replace HB := zA (below_step zq81 hb); have NB671_685 := zA ((zq164 : gb671 ≠ gb685)); have NB685_671 := zA ((zq165 : gb685 ≠ gb671)); replace BK671 := zA (blk_below (g := gb671) (o := .cells #[.int .i64 0, .int .i64 0, .string (⟨#[]⟩ : ByteArray), .slice none 0 0] 76 (0, 0)) zq65 hb); have NB672_685 := zA ((by rw [hg]; exact Nat.ne_of_lt (blk_lt (g := gb672) (o := .cells #[.int .i64 0, .int .i64 0, .string (⟨#[]⟩ : ByteArray), .slice none 0 0] 76 (0, 0)) zq91) : gb672 ≠ gb685)); have NB685_672 := zA ((by rw [hg]; exact Nat.ne_of_gt (blk_lt (g := gb672) (o := .cells #[.int .i64 0, .int .i64 0, .string (⟨#[]⟩ : ByteArray), .slice none 0 0] 76 (0, 0)) zq91) : gb685 ≠ gb672)); replace BK672 := zA (blk_below (g := gb672) (o := .cells #[.int .i64 0, .int .i64 0, .string (⟨#[]⟩ : ByteArray), .slice none 0 0] 76 (0, 0)) zq91 hb); have NB676_685 := zA ((by rw [hg]; exact Nat.ne_of_lt (IsS170.lt (show IsS170 w _ g676 t673 t683 t684 from by repeat (first | (with_reducible first | exact HI676.out | apply IsS170.alloc | apply IsS170.drewN | apply IsS170.drew | apply IsS170.set_1 | apply IsS170.set_2 | refine IsS170.far ?_ NB676_671.out _ | refine IsS170.far ?_ NB676_672.out _) | exact HI676.out))) : g676 ≠ gb685)); have NB685_676 := zA ((by rw [hg]; exact Nat.ne_of_gt (IsS170.lt (show IsS170 w _ g676 t673 t683 t684 from by repeat (first | (with_reducible first | exact HI676.out | apply IsS170.alloc | apply IsS170.drewN | apply IsS170.drew | apply IsS170.set_1 | apply IsS170.set_2 | refine IsS170.far ?_ NB676_671.out _ | refine IsS170.far ?_ NB676_672.out _) | exact HI676.out))) : gb685 ≠ g676)); replace HI676 := zA (IsS170.below (by repeat (first | (with_reducible first | exact HI676.out | apply IsS170.alloc | apply IsS170.drewN | apply IsS170.drew | apply IsS170.set_1 | apply IsS170.set_2 | refine IsS170.far ?_ NB676_671.out _ | refine IsS170.far ?_ NB676_672.out _) | exact HI676.out)) hb); clear hb hbox hg; have hnb13 := NB685_671.out; have hnc13 := NB671_685.out; have hnb14 := NB685_672.out; have hnc14 := NB672_685.out; have hnb15 := NB685_676.out; have hnc15 := NB676_685.out; have hcz16_0 : w12.cell? ⟨gb685, 0, none⟩ = some (.int .i64 0) := (blk_cell BK685.out 0).trans rfl; have hcz16_1 : w12.cell? ⟨gb685, 1, none⟩ = some (.int .i64 0) := (blk_cell BK685.out 1).trans rfl; have hcz16_2 : w12.cell? ⟨gb685, 2, none⟩ = some (.string (⟨#[]⟩ : ByteArray)) := (blk_cell BK685.out 2).trans rfl; have hcz16_3 : w12.cell? ⟨gb685, 3, none⟩ = some (.slice none 0 0) := (blk_cell BK685.out 3).trans rfl; have hfz16_0 := blk_frozen BK685.out 0; have hfz16_1 := blk_frozen BK685.out 1; have hfz16_2 := blk_frozen BK685.out 2; have hfz16_3 := blk_frozen BK685.out 3; obtain ⟨Ao17, co17, eo17⟩ := Kd.R_slice HO682.out; subst eo17))
 (try simp only [Act.put, List.setIfInBounds_toArray, List.set_cons_zero, List.set_cons_succ])
 have H := HC10.out
 clear HC10
 obtain ⟨⟨t686, t687, t688⟩, A18, H⟩ := zB H
 try dsimp only at H
 by_cases c19 : t686 = true
 ·subst c19
  rw [if_pos rfl] at H
  have HC20 := zA H
  clear H
  go_upto_region 4 with (first | ((with_reducible refine gate_callee (f := 127) rfl ?_); refine goesL_ (some 11) rfl rfl Try.func127 (by kernel_rfl) rfl #[.pointer (some ⟨g676, 0, none⟩), .int .i64 3] rfl zq1 ?_; (with_reducible refine (spec_l1Once.calls g676 t673 t683 t684 3 true t687 t688 w _ ?side1 ?side2 A18.out).mono ?_); (case side1 => repeat (first | (with_reducible first | exact HI676.out | apply IsS170.alloc | apply IsS170.drewN | apply IsS170.drew | apply IsS170.set_1 | apply IsS170.set_2 | refine IsS170.far ?_ NB676_671.out _ | refine IsS170.far ?_ NB676_672.out _ | refine IsS170.far ?_ NB676_685.out _) | exact HI676.out)); (case side2 => repeat (first | (with_reducible first | exact HB.out | apply below_alloc | apply pw_below_drewN | apply below_drew1 | refine below_set ?_ (IsS170.ge HI676.out) | refine below_set ?_ GE671.out | refine below_set ?_ GE672.out | refine below_set ?_ GE685.out) | exact HB.out)); rintro e w21 ⟨rfl, hi, hb, hk⟩; refine ⟨_, rfl, ?_⟩; replace BK671 := zA (KeepBut.blk hk (g' := gb671) (o := .cells #[.int .i64 0, .int .i64 0, .string (⟨#[]⟩ : ByteArray), .slice none 0 0] 76 (0, 0)) zq114 NB671_676.out zq134); replace BK672 := zA (KeepBut.blk hk (g' := gb672) (o := .cells #[.int .i64 0, .int .i64 0, .string (⟨#[]⟩ : ByteArray), .slice none 0 0] 76 (0, 0)) zq115 NB672_676.out zq134); replace HO682 := zA (Kd.R_mono (Kd.R_keep (IsS170.apart (show IsS170 w _ g676 t673 t683 t684 from by repeat (first | (with_reducible first | exact HI676.out | apply IsS170.alloc | apply IsS170.drewN | apply IsS170.drew | apply IsS170.set_1 | apply IsS170.set_2 | refine IsS170.far ?_ NB676_671.out _ | refine IsS170.far ?_ NB676_672.out _ | refine IsS170.far ?_ NB676_685.out _) | exact HI676.out)) zq135 zq39) hk (fun _ h => h.2)) (fun _ h => h.1)); replace BK685 := zA (KeepBut.blk hk (g' := gb685) (o := .cells #[.int .i64 t677, .int .i64 t678, .string t679, .slice Ao17 t680.length co17] 76 (0, 0)) zq75 NB685_676.out zq134); replace HB := zA (hb); replace HI676 := zA (hi); clear hb hk hi))
  (try simp only [Act.put, List.setIfInBounds_toArray, List.set_cons_zero, List.set_cons_succ])
  have H := HC20.out
  clear HC20
  simp only [Option.some.injEq, Prod.mk.injEq] at H
  obtain ⟨rfl, rfl, rfl, rfl, rfl, rfl, rfl, rfl⟩ := H
  try go_wp2
  have n0_ := zA (Kd.R_drew HO682.out)
  have n1_ := zA (blk_drew BK671.out)
  have n2_ := zA (blk_drew BK672.out)
  have n3_ := zA (blk_drew BK685.out)
  have n4_ := zA (IsS170.drew HI676.out)
  have n5_ := zA (below_drew1 HB.out)
  clear HO682
  clear BK671
  clear BK672
  clear BK685
  clear HI676
  clear HB
  have HO682 := n0_
  have BK671 := n1_
  have BK672 := n2_
  have BK685 := n3_
  have HI676 := n4_
  have HB := n5_
  clear n0_ n1_ n2_ n3_ n4_ n5_
  refine start_ (n := 4) (S := fun w' => w'.cell? ⟨gb685, 0, none⟩ = some (.int .i64 t677) ∧ w'.cell? ⟨gb685, 1, none⟩ = some (.int .i64 t678) ∧ w'.cell? ⟨gb685, 2, none⟩ = some (.string t679) ∧ w'.cell? ⟨gb685, 3, none⟩ = some (.slice Ao17 t680.length co17)) (ds := []) #[false, false, false, false] (by kernel_rfl) rfl rfl ⟨(blk_cell BK685.out 0).trans rfl, (blk_cell BK685.out 1).trans rfl, (blk_cell BK685.out 2).trans rfl, (blk_cell BK685.out 3).trans rfl⟩ (fun hHeld => ?_)
  generalize w21.drew = w22 at HO682 BK671 BK672 BK685 HI676 HB hHeld ⊢
  refine take_ (i := 0) (N := some 12) (v := ?_) (a' := ?_) #[true, false, false, false] rfl rfl (by kernel_rfl) (fun _ _ _ h => h) (Or.inl ⟨zq84, ?_⟩) hHeld ?_ ?_
  rotate_left
  ·rintro w' ⟨s0, s1, s2, s3⟩
   go_simp
   with_reducible rfl
  rotate_left
  ·simp only [Act.put, List.setIfInBounds_toArray, List.set_cons_zero, List.set_cons_succ, i64_w, i32_w]
   rfl
  refine take_ (i := 1) (N := some 13) (v := ?_) (a' := ?_) #[true, true, false, false] rfl rfl (by kernel_rfl) (fun _ _ _ h => h) (Or.inl ⟨zq84, ?_⟩) hHeld ?_ ?_
  rotate_left
  ·rintro w' ⟨s0, s1, s2, s3⟩
   go_simp
   with_reducible rfl
  rotate_left
  ·simp only [Act.put, List.setIfInBounds_toArray, List.set_cons_zero, List.set_cons_succ, i64_w, i32_w]
   rfl
  refine one_ (i := 2) (N := none) #[true, true, true, false] rfl rfl (by kernel_rfl) zq39 (fun K hK => ?_)
  have hs23 : w22.cell? ⟨gb671, 0, none⟩ = some (.int .i64 0) := (blk_cell BK671.out 0).trans rfl
  have hfs23 := blk_frozen BK671.out 0
  have hns23_1 := NB672_671.out
  have hns23_2 := NB685_671.out
  have hms23_1 := NB671_672.out
  have hms23_2 := NB671_685.out
  have hs24 : w22.cell? ⟨gb671, 1, none⟩ = some (.int .i64 0) := (blk_cell BK671.out 1).trans rfl
  have hfs24 := blk_frozen BK671.out 1
  have hns24_1 := NB672_671.out
  have hns24_2 := NB685_671.out
  have hms24_1 := NB671_672.out
  have hms24_2 := NB671_685.out
  have hs25 : w22.cell? ⟨gb671, 2, none⟩ = some (.string (⟨#[]⟩ : ByteArray)) := (blk_cell BK671.out 2).trans rfl
  have hfs25 := blk_frozen BK671.out 2
  have hns25_1 := NB672_671.out
  have hns25_2 := NB685_671.out
  have hms25_1 := NB671_672.out
  have hms25_2 := NB671_685.out
  have hs26 : w22.cell? ⟨gb671, 3, none⟩ = some (.slice none 0 0) := (blk_cell BK671.out 3).trans rfl
  have hfs26 := blk_frozen BK671.out 3
  have hns26_1 := NB672_671.out
  have hns26_2 := NB685_671.out
  have hms26_1 := NB671_672.out
  have hms26_2 := NB671_685.out
  refine skip_ (w1 := ?_) zq84 rfl ?_ ?_
  rotate_left
  ·go_simp
   rfl
  refine hK.out _ _ ⟨((cell_far (p := ⟨gb671, _, none⟩) NB685_671.out _).trans (((cell_far (p := ⟨gb671, _, none⟩) NB685_671.out _).trans (((cell_far (p := ⟨gb671, _, none⟩) NB685_671.out _).trans (((cell_far (p := ⟨gb671, _, none⟩) NB685_671.out _).trans (hHeld.1)))))))), ((cell_far (p := ⟨gb671, _, none⟩) NB685_671.out _).trans (((cell_far (p := ⟨gb671, _, none⟩) NB685_671.out _).trans (((cell_far (p := ⟨gb671, _, none⟩) NB685_671.out _).trans (((cell_far (p := ⟨gb671, _, none⟩) NB685_671.out _).trans (hHeld.2.1)))))))), ((cell_far (p := ⟨gb671, _, none⟩) NB685_671.out _).trans (((cell_far (p := ⟨gb671, _, none⟩) NB685_671.out _).trans (((cell_far (p := ⟨gb671, _, none⟩) NB685_671.out _).trans (((cell_far (p := ⟨gb671, _, none⟩) NB685_671.out _).trans (hHeld.2.2.1)))))))), ((cell_far (p := ⟨gb671, _, none⟩) NB685_671.out _).trans (((cell_far (p := ⟨gb671, _, none⟩) NB685_671.out _).trans (((cell_far (p := ⟨gb671, _, none⟩) NB685_671.out _).trans (((cell_far (p := ⟨gb671, _, none⟩) NB685_671.out _).trans (hHeld.2.2.2))))))))⟩ (fun hHeld => ?_)
  clear hK K
  refine one_ (i := 3) (N := none) #[true, true, true, true] rfl rfl (by kernel_rfl) zq39 (fun K hK => ?_)
  have hs27 : w22.cell? ⟨gb672, 0, none⟩ = some (.int .i64 0) := (blk_cell BK672.out 0).trans rfl
  have hfs27 := blk_frozen BK672.out 0
  have hns27_0 := NB671_672.out
  have hns27_2 := NB685_672.out
  have hms27_0 := NB672_671.out
  have hms27_2 := NB672_685.out
  have hs28 : w22.cell? ⟨gb672, 1, none⟩ = some (.int .i64 0) := (blk_cell BK672.out 1).trans rfl
  have hfs28 := blk_frozen BK672.out 1
  have hns28_0 := NB671_672.out
  have hns28_2 := NB685_672.out
  have hms28_0 := NB672_671.out
  have hms28_2 := NB672_685.out
  have hs29 : w22.cell? ⟨gb672, 2, none⟩ = some (.string (⟨#[]⟩ : ByteArray)) := (blk_cell BK672.out 2).trans rfl
  have hfs29 := blk_frozen BK672.out 2
  have hns29_0 := NB671_672.out
  have hns29_2 := NB685_672.out
  have hms29_0 := NB672_671.out
  have hms29_2 := NB672_685.out
  have hs30 : w22.cell? ⟨gb672, 3, none⟩ = some (.slice none 0 0) := (blk_cell BK672.out 3).trans rfl
  have hfs30 := blk_frozen BK672.out 3
  have hns30_0 := NB671_672.out
  have hns30_2 := NB685_672.out
  have hms30_0 := NB672_671.out
  have hms30_2 := NB672_685.out
  refine skip_ (w1 := ?_) zq84 rfl ?_ ?_
  rotate_left
  ·go_simp
   rfl
  refine hK.out _ _ ⟨((cell_far (p := ⟨gb672, _, none⟩) NB685_672.out _).trans (((cell_far (p := ⟨gb672, _, none⟩) NB685_672.out _).trans (((cell_far (p := ⟨gb672, _, none⟩) NB685_672.out _).trans (((cell_far (p := ⟨gb672, _, none⟩) NB685_672.out _).trans (hHeld.1)))))))), ((cell_far (p := ⟨gb672, _, none⟩) NB685_672.out _).trans (((cell_far (p := ⟨gb672, _, none⟩) NB685_672.out _).trans (((cell_far (p := ⟨gb672, _, none⟩) NB685_672.out _).trans (((cell_far (p := ⟨gb672, _, none⟩) NB685_672.out _).trans (hHeld.2.1)))))))), ((cell_far (p := ⟨gb672, _, none⟩) NB685_672.out _).trans (((cell_far (p := ⟨gb672, _, none⟩) NB685_672.out _).trans (((cell_far (p := ⟨gb672, _, none⟩) NB685_672.out _).trans (((cell_far (p := ⟨gb672, _, none⟩) NB685_672.out _).trans (hHeld.2.2.1)))))))), ((cell_far (p := ⟨gb672, _, none⟩) NB685_672.out _).trans (((cell_far (p := ⟨gb672, _, none⟩) NB685_672.out _).trans (((cell_far (p := ⟨gb672, _, none⟩) NB685_672.out _).trans (((cell_far (p := ⟨gb672, _, none⟩) NB685_672.out _).trans (hHeld.2.2.2))))))))⟩ (fun hHeld => ?_)
  clear hK K
  refine done_ (by kernel_rfl) ?_
  try go_wp2
  refine bodyPost_ret (results_cc rfl _ _ gb671 gb672 76 76 #[.int .i64 t677, .int .i64 t678, .string t679, .slice Ao17 t680.length co17] #[.int .i64 t677, .int .i64 t678, .string t679, .slice Ao17 t680.length co17] (0, 0) (0, 0) _ _ rfl zq44 Try.underlying76 rfl (by kernel_rfl) rfl (by (with_reducible repeat (first | refine blk_drewN ?_ _ | refine blk_drew ?_ | refine blk_alloc ?_ _)); refine blk_put (cs := #[.int .i64 t677, .int .i64 t678, .string t679, .slice none 0 0]) ?_ 3 _ rfl; (with_reducible repeat (first | refine blk_drewN ?_ _ | refine blk_drew ?_ | refine blk_alloc ?_ _)); refine blk_put (cs := #[.int .i64 t677, .int .i64 t678, .string (⟨#[]⟩ : ByteArray), .slice none 0 0]) ?_ 2 _ rfl; (with_reducible repeat (first | refine blk_drewN ?_ _ | refine blk_drew ?_ | refine blk_alloc ?_ _)); refine blk_put (cs := #[.int .i64 t677, .int .i64 0, .string (⟨#[]⟩ : ByteArray), .slice none 0 0]) ?_ 1 _ rfl; (with_reducible repeat (first | refine blk_drewN ?_ _ | refine blk_drew ?_ | refine blk_alloc ?_ _)); refine blk_put (cs := #[.int .i64 0, .int .i64 0, .string (⟨#[]⟩ : ByteArray), .slice none 0 0]) ?_ 0 _ rfl; (with_reducible repeat (first | refine blk_drewN ?_ _ | refine blk_drew ?_ | refine blk_alloc ?_ _)); refine blk_far ?_ NB672_671.out _; (with_reducible repeat (first | refine blk_drewN ?_ _ | refine blk_drew ?_ | refine blk_alloc ?_ _)); refine blk_far ?_ NB672_671.out _; (with_reducible repeat (first | refine blk_drewN ?_ _ | refine blk_drew ?_ | refine blk_alloc ?_ _)); refine blk_far ?_ NB672_671.out _; (with_reducible repeat (first | refine blk_drewN ?_ _ | refine blk_drew ?_ | refine blk_alloc ?_ _)); refine blk_far ?_ NB672_671.out _; (with_reducible repeat (first | refine blk_drewN ?_ _ | refine blk_drew ?_ | refine blk_alloc ?_ _)); exact BK672.out) Try.underlying76 rfl (by kernel_rfl)) rfl ?_
  exact ⟨_, _, zq2, Kd.R_V zq88, Kd.R_V zq88, zq95⟩
 ·replace c19 := Bool.eq_false_iff.mpr c19
  subst c19
  rw [if_neg zF] at H
  have HC31 := zA H
  clear H
  go_upto_region 5 with (first | ((with_reducible refine gate_callee (f := 127) rfl ?_); refine goesL_ (some 11) rfl rfl Try.func127 (by kernel_rfl) rfl #[.pointer (some ⟨g676, 0, none⟩), .int .i64 3] rfl zq1 ?_; (with_reducible refine (spec_l1Once.calls g676 t673 t683 t684 3 false t687 t688 w _ ?side1 ?side2 A18.out).mono ?_); (case side1 => repeat (first | (with_reducible first | exact HI676.out | apply IsS170.alloc | apply IsS170.drewN | apply IsS170.drew | apply IsS170.set_1 | apply IsS170.set_2 | refine IsS170.far ?_ NB676_671.out _ | refine IsS170.far ?_ NB676_672.out _ | refine IsS170.far ?_ NB676_685.out _) | exact HI676.out)); (case side2 => repeat (first | (with_reducible first | exact HB.out | apply below_alloc | apply pw_below_drewN | apply below_drew1 | refine below_set ?_ (IsS170.ge HI676.out) | refine below_set ?_ GE671.out | refine below_set ?_ GE672.out | refine below_set ?_ GE685.out) | exact HB.out)); rintro e w32 ⟨rfl, hi, hb, hk⟩; refine ⟨_, rfl, ?_⟩; replace BK671 := zA (KeepBut.blk hk (g' := gb671) (o := .cells #[.int .i64 0, .int .i64 0, .string (⟨#[]⟩ : ByteArray), .slice none 0 0] 76 (0, 0)) zq114 NB671_676.out zq134); replace BK672 := zA (KeepBut.blk hk (g' := gb672) (o := .cells #[.int .i64 0, .int .i64 0, .string (⟨#[]⟩ : ByteArray), .slice none 0 0] 76 (0, 0)) zq115 NB672_676.out zq134); replace HO682 := zA (Kd.R_mono (Kd.R_keep (IsS170.apart (show IsS170 w _ g676 t673 t683 t684 from by repeat (first | (with_reducible first | exact HI676.out | apply IsS170.alloc | apply IsS170.drewN | apply IsS170.drew | apply IsS170.set_1 | apply IsS170.set_2 | refine IsS170.far ?_ NB676_671.out _ | refine IsS170.far ?_ NB676_672.out _ | refine IsS170.far ?_ NB676_685.out _) | exact HI676.out)) zq135 zq39) hk (fun _ h => h.2)) (fun _ h => h.1)); replace BK685 := zA (KeepBut.blk hk (g' := gb685) (o := .cells #[.int .i64 t677, .int .i64 t678, .string t679, .slice Ao17 t680.length co17] 76 (0, 0)) zq75 NB685_676.out zq134); replace HB := zA (hb); replace HI676 := zA (hi); clear hb hk hi))
  (try simp only [Act.put, List.setIfInBounds_toArray, List.set_cons_zero, List.set_cons_succ])
  have H := HC31.out
  clear HC31
  obtain ⟨⟨t689, t690, t691, t692, t695, t696⟩, A33, H⟩ := zB H
  try dsimp only at H
  simp only [Option.some.injEq, Prod.mk.injEq] at H
  obtain ⟨rfl, rfl, rfl, rfl, rfl, rfl, rfl, rfl⟩ := H
  try go_wp2
  have n0_ := zA (Kd.R_drew HO682.out)
  have n1_ := zA (blk_drew BK671.out)
  have n2_ := zA (blk_drew BK672.out)
  have n3_ := zA (blk_drew BK685.out)
  have n4_ := zA (IsS170.drew HI676.out)
  have n5_ := zA (below_drew1 HB.out)
  clear HO682
  clear BK671
  clear BK672
  clear BK685
  clear HI676
  clear HB
  have HO682 := n0_
  have BK671 := n1_
  have BK672 := n2_
  have BK685 := n3_
  have HI676 := n4_
  have HB := n5_
  clear n0_ n1_ n2_ n3_ n4_ n5_
  refine start_ (n := 5) (S := fun w' => w'.cell? ⟨gb685, 0, none⟩ = some (.int .i64 t677) ∧ w'.cell? ⟨gb685, 1, none⟩ = some (.int .i64 t678) ∧ w'.cell? ⟨gb685, 2, none⟩ = some (.string t679) ∧ w'.cell? ⟨gb685, 3, none⟩ = some (.slice Ao17 t680.length co17)) (ds := []) #[false, false, false, false, false] (by kernel_rfl) rfl rfl ⟨(blk_cell BK685.out 0).trans rfl, (blk_cell BK685.out 1).trans rfl, (blk_cell BK685.out 2).trans rfl, (blk_cell BK685.out 3).trans rfl⟩ (fun hHeld => ?_)
  generalize w32.drew = w34 at HO682 BK671 BK672 BK685 HI676 HB hHeld ⊢
  refine pure_ (i := 1) (N := some 15) (v := ?_) (a' := ?_) #[false, true, false, false, false] rfl rfl (by kernel_rfl) (fun _ _ _ h => h) (Or.inl ⟨zq84, ?_⟩) ?_ ?_
  rotate_left
  ·intro w'
   go_simp
   with_reducible rfl
  rotate_left
  ·simp only [Act.put, List.setIfInBounds_toArray, List.set_cons_zero, List.set_cons_succ, i64_w, i32_w]
   rfl
  refine take_ (i := 0) (N := some 14) (v := ?_) (a' := ?_) #[true, true, false, false, false] rfl rfl (by kernel_rfl) (fun _ _ _ h => h) (Or.inl ⟨zq84, ?_⟩) hHeld ?_ ?_
  rotate_left
  ·rintro w' ⟨s0, s1, s2, s3⟩
   go_simp
   with_reducible rfl
  rotate_left
  ·simp only [Act.put, List.setIfInBounds_toArray, List.set_cons_zero, List.set_cons_succ, i64_w, i32_w]
   rfl
  refine one_ (i := 2) (N := some 16) #[true, true, true, false, false] rfl rfl (by kernel_rfl) zq39 (fun K hK => ?_)
  refine goes_ Try.func167 (by kernel_rfl) rfl #[.pointer (some ⟨g676, 0, none⟩)] zq84 rfl rfl zq1 ?_
  with_reducible refine (spec_l3Any.calls k g676 t673 t687 t688 t689 t690 t691 t692 t695 t696 w _ ?side1 ?side2 A33.out).mono ?_
  (case side1 => repeat (first | (with_reducible first | exact HI676.out | apply IsS170.alloc | apply IsS170.drewN | apply IsS170.drew | apply IsS170.set_1 | apply IsS170.set_2 | refine IsS170.far ?_ NB676_671.out _ | refine IsS170.far ?_ NB676_672.out _ | refine IsS170.far ?_ NB676_685.out _) | exact HI676.out))
  (case side2 => repeat (first | (with_reducible first | exact HB.out | apply below_alloc | apply pw_below_drewN | apply below_drew1 | refine below_set ?_ (IsS170.ge HI676.out) | refine below_set ?_ GE671.out | refine below_set ?_ GE672.out | refine below_set ?_ GE685.out) | exact HB.out))
  rintro e w35 ⟨v693, rfl, ho0, hi, hb, hk⟩
  refine ⟨_, rfl, ?_⟩
  have n0_ := zA (KeepBut.blk hk (g' := gb671) (o := .cells #[.int .i64 0, .int .i64 0, .string (⟨#[]⟩ : ByteArray), .slice none 0 0] 76 (0, 0)) zq65 NB671_676.out zq134)
  have n1_ := zA (KeepBut.blk hk (g' := gb672) (o := .cells #[.int .i64 0, .int .i64 0, .string (⟨#[]⟩ : ByteArray), .slice none 0 0] 76 (0, 0)) zq91 NB672_676.out zq134)
  have n2_ := zA (Kd.R_mono (Kd.R_told (Kd.R_oldK (IsS170.apart (show IsS170 w _ g676 t673 t687 t688 from by repeat (first | (with_reducible first | exact HI676.out | apply IsS170.alloc | apply IsS170.drewN | apply IsS170.drew | apply IsS170.set_1 | apply IsS170.set_2 | refine IsS170.far ?_ NB676_671.out _ | refine IsS170.far ?_ NB676_672.out _ | refine IsS170.far ?_ NB676_685.out _) | exact HI676.out)) zq188 zq39) hk) (Kd.R_base ho0)) (fun _ h_ => h_.1))
  have n3_ := zA (KeepBut.blk hk (g' := gb685) (o := .cells #[.int .i64 t677, .int .i64 t678, .string t679, .slice Ao17 t680.length co17] 76 (0, 0)) (by (with_reducible repeat (first | refine blk_drewN ?_ _ | refine blk_drew ?_ | refine blk_alloc ?_ _)); exact BK685.out) NB685_676.out zq134)
  have n4_ := zA (Kd.R_lower (Kd.R_new' (Kd.R_newM (M := fun k_ => (w.heap.size ≤ k_)) ho0 (below_size zq95) (fun k_ h_ => h_)) (Kd.R_lt zq188)) (below_size zq95))
  have n5_ := zA (hb)
  have n6_ := zA (hi)
  clear BK671
  clear BK672
  clear HO682
  clear BK685
  clear HB
  clear HI676
  have BK671 := n0_
  have BK672 := n1_
  have HO682 := n2_
  have BK685 := n3_
  have HO694 := n4_
  have HB := n5_
  have HI676 := n6_
  clear n0_ n1_ n2_ n3_ n4_ n5_ n6_
  (try clear hb)
  (try clear hb2)
  (try clear hk)
  (try clear hi)
  (try clear ho0)
  obtain ⟨Ao43, co43, eo43⟩ := Kd.R_slice HO694.out
  (first | subst eo43 | (injection eo43 with f1_ f2_ f3_; have f4_ := f1_.symm; have f5_ := f3_.symm; clear f1_ f2_ f3_; subst f4_; subst f5_))
  refine hK.out _ _ ⟨(blk_cell BK685.out 0).trans rfl, (blk_cell BK685.out 1).trans rfl, (blk_cell BK685.out 2).trans rfl, (blk_cell BK685.out 3).trans rfl⟩ (fun hHeld => ?_)
  clear hK K
  refine norm_ (a' := ?_) ?_ ?_
  rotate_left
  ·show Act.put _ (some 16) _ = _
   simp only [Act.put, List.setIfInBounds_toArray, List.set_cons_zero, List.set_cons_succ, i64_w, i32_w]
   rfl
  refine one_ (i := 3) (N := none) #[true, true, true, true, false] rfl rfl (by kernel_rfl) zq39 (fun K hK => ?_)
  have hs36 : w35.cell? ⟨gb671, 0, none⟩ = some (.int .i64 0) := (blk_cell BK671.out 0).trans rfl
  have hfs36 := blk_frozen BK671.out 0
  have hns36_1 := NB672_671.out
  have hns36_2 := NB685_671.out
  have hms36_1 := NB671_672.out
  have hms36_2 := NB671_685.out
  have hs37 : w35.cell? ⟨gb671, 1, none⟩ = some (.int .i64 0) := (blk_cell BK671.out 1).trans rfl
  have hfs37 := blk_frozen BK671.out 1
  have hns37_1 := NB672_671.out
  have hns37_2 := NB685_671.out
  have hms37_1 := NB671_672.out
  have hms37_2 := NB671_685.out
  have hs38 : w35.cell? ⟨gb671, 2, none⟩ = some (.string (⟨#[]⟩ : ByteArray)) := (blk_cell BK671.out 2).trans rfl
  have hfs38 := blk_frozen BK671.out 2
  have hns38_1 := NB672_671.out
  have hns38_2 := NB685_671.out
  have hms38_1 := NB671_672.out
  have hms38_2 := NB671_685.out
  have hs39 : w35.cell? ⟨gb671, 3, none⟩ = some (.slice none 0 0) := (blk_cell BK671.out 3).trans rfl
  have hfs39 := blk_frozen BK671.out 3
  have hns39_1 := NB672_671.out
  have hns39_2 := NB685_671.out
  have hms39_1 := NB671_672.out
  have hms39_2 := NB671_685.out
  refine skip_ (w1 := ?_) zq84 rfl ?_ ?_
  rotate_left
  ·go_simp
   rfl
  refine hK.out _ _ ⟨((cell_far (p := ⟨gb671, _, none⟩) NB685_671.out _).trans (((cell_far (p := ⟨gb671, _, none⟩) NB685_671.out _).trans (((cell_far (p := ⟨gb671, _, none⟩) NB685_671.out _).trans (((cell_far (p := ⟨gb671, _, none⟩) NB685_671.out _).trans (hHeld.1)))))))), ((cell_far (p := ⟨gb671, _, none⟩) NB685_671.out _).trans (((cell_far (p := ⟨gb671, _, none⟩) NB685_671.out _).trans (((cell_far (p := ⟨gb671, _, none⟩) NB685_671.out _).trans (((cell_far (p := ⟨gb671, _, none⟩) NB685_671.out _).trans (hHeld.2.1)))))))), ((cell_far (p := ⟨gb671, _, none⟩) NB685_671.out _).trans (((cell_far (p := ⟨gb671, _, none⟩) NB685_671.out _).trans (((cell_far (p := ⟨gb671, _, none⟩) NB685_671.out _).trans (((cell_far (p := ⟨gb671, _, none⟩) NB685_671.out _).trans (hHeld.2.2.1)))))))), ((cell_far (p := ⟨gb671, _, none⟩) NB685_671.out _).trans (((cell_far (p := ⟨gb671, _, none⟩) NB685_671.out _).trans (((cell_far (p := ⟨gb671, _, none⟩) NB685_671.out _).trans (((cell_far (p := ⟨gb671, _, none⟩) NB685_671.out _).trans (hHeld.2.2.2))))))))⟩ (fun hHeld => ?_)
  clear hK K
  refine one_ (i := 4) (N := none) #[true, true, true, true, true] rfl rfl (by kernel_rfl) zq39 (fun K hK => ?_)
  have hs40 : w35.cell? ⟨gb672, 0, none⟩ = some (.int .i64 0) := (blk_cell BK672.out 0).trans rfl
  have hfs40 := blk_frozen BK672.out 0
  have hns40_0 := NB671_672.out
  have hns40_2 := NB685_672.out
  have hms40_0 := NB672_671.out
  have hms40_2 := NB672_685.out
  have hs41 : w35.cell? ⟨gb672, 1, none⟩ = some (.int .i64 0) := (blk_cell BK672.out 1).trans rfl
  have hfs41 := blk_frozen BK672.out 1
  have hns41_0 := NB671_672.out
  have hns41_2 := NB685_672.out
  have hms41_0 := NB672_671.out
  have hms41_2 := NB672_685.out
  have hs42 : w35.cell? ⟨gb672, 2, none⟩ = some (.string (⟨#[]⟩ : ByteArray)) := (blk_cell BK672.out 2).trans rfl
  have hfs42 := blk_frozen BK672.out 2
  have hns42_0 := NB671_672.out
  have hns42_2 := NB685_672.out
  have hms42_0 := NB672_671.out
  have hms42_2 := NB672_685.out
  have hs44 : w35.cell? ⟨gb672, 3, none⟩ = some (.slice none 0 0) := (blk_cell BK672.out 3).trans rfl
  have hfs44 := blk_frozen BK672.out 3
  have hns44_0 := NB671_672.out
  have hns44_2 := NB685_672.out
  have hms44_0 := NB672_671.out
  have hms44_2 := NB672_685.out
  refine skip_ (w1 := ?_) zq84 rfl ?_ ?_
  rotate_left
  ·go_simp
   rfl
  refine hK.out _ _ ⟨((cell_far (p := ⟨gb672, _, none⟩) NB685_672.out _).trans (((cell_far (p := ⟨gb672, _, none⟩) NB685_672.out _).trans (((cell_far (p := ⟨gb672, _, none⟩) NB685_672.out _).trans (((cell_far (p := ⟨gb672, _, none⟩) NB685_672.out _).trans (hHeld.1)))))))), ((cell_far (p := ⟨gb672, _, none⟩) NB685_672.out _).trans (((cell_far (p := ⟨gb672, _, none⟩) NB685_672.out _).trans (((cell_far (p := ⟨gb672, _, none⟩) NB685_672.out _).trans (((cell_far (p := ⟨gb672, _, none⟩) NB685_672.out _).trans (hHeld.2.1)))))))), ((cell_far (p := ⟨gb672, _, none⟩) NB685_672.out _).trans (((cell_far (p := ⟨gb672, _, none⟩) NB685_672.out _).trans (((cell_far (p := ⟨gb672, _, none⟩) NB685_672.out _).trans (((cell_far (p := ⟨gb672, _, none⟩) NB685_672.out _).trans (hHeld.2.2.1)))))))), ((cell_far (p := ⟨gb672, _, none⟩) NB685_672.out _).trans (((cell_far (p := ⟨gb672, _, none⟩) NB685_672.out _).trans (((cell_far (p := ⟨gb672, _, none⟩) NB685_672.out _).trans (((cell_far (p := ⟨gb672, _, none⟩) NB685_672.out _).trans (hHeld.2.2.2))))))))⟩ (fun hHeld => ?_)
  clear hK K
  refine done_ (by kernel_rfl) ?_
  try go_wp2
  refine bodyPost_ret (results_cc rfl _ _ gb671 gb672 76 76 #[.int .i64 t677, .int .i64 t678, .string t679, .slice Ao17 t680.length co17] #[.int .i64 t689, .int .i64 t690, .string t691, .slice Ao43 t692.length co43] (0, 0) (0, 0) _ _ rfl zq44 Try.underlying76 rfl (by kernel_rfl) rfl (by (with_reducible repeat (first | refine blk_drewN ?_ _ | refine blk_drew ?_ | refine blk_alloc ?_ _)); refine blk_put (cs := #[.int .i64 t689, .int .i64 t690, .string t691, .slice none 0 0]) ?_ 3 _ rfl; (with_reducible repeat (first | refine blk_drewN ?_ _ | refine blk_drew ?_ | refine blk_alloc ?_ _)); refine blk_put (cs := #[.int .i64 t689, .int .i64 t690, .string (⟨#[]⟩ : ByteArray), .slice none 0 0]) ?_ 2 _ rfl; (with_reducible repeat (first | refine blk_drewN ?_ _ | refine blk_drew ?_ | refine blk_alloc ?_ _)); refine blk_put (cs := #[.int .i64 t689, .int .i64 0, .string (⟨#[]⟩ : ByteArray), .slice none 0 0]) ?_ 1 _ rfl; (with_reducible repeat (first | refine blk_drewN ?_ _ | refine blk_drew ?_ | refine blk_alloc ?_ _)); refine blk_put (cs := #[.int .i64 0, .int .i64 0, .string (⟨#[]⟩ : ByteArray), .slice none 0 0]) ?_ 0 _ rfl; (with_reducible repeat (first | refine blk_drewN ?_ _ | refine blk_drew ?_ | refine blk_alloc ?_ _)); refine blk_far ?_ NB672_671.out _; (with_reducible repeat (first | refine blk_drewN ?_ _ | refine blk_drew ?_ | refine blk_alloc ?_ _)); refine blk_far ?_ NB672_671.out _; (with_reducible repeat (first | refine blk_drewN ?_ _ | refine blk_drew ?_ | refine blk_alloc ?_ _)); refine blk_far ?_ NB672_671.out _; (with_reducible repeat (first | refine blk_drewN ?_ _ | refine blk_drew ?_ | refine blk_alloc ?_ _)); refine blk_far ?_ NB672_671.out _; (with_reducible repeat (first | refine blk_drewN ?_ _ | refine blk_drew ?_ | refine blk_alloc ?_ _)); exact BK672.out) Try.underlying76 rfl (by kernel_rfl)) rfl ?_
  exact ⟨_, _, zq2, Kd.R_V (by (with_reducible repeat (first | apply Kd.R_alloc | apply Kd.R_drewN | apply Kd.R_drew)); exact Kd.R_mono (Kd.R_far (p := ⟨gb672, 3, none⟩) (Kd.R_far (p := ⟨gb672, 2, none⟩) (Kd.R_far (p := ⟨gb672, 1, none⟩) (Kd.R_far (p := ⟨gb672, 0, none⟩) (Kd.R_far (p := ⟨gb671, 3, none⟩) (Kd.R_far (p := ⟨gb671, 2, none⟩) (Kd.R_far (p := ⟨gb671, 1, none⟩) (Kd.R_far (p := ⟨gb671, 0, none⟩) (Kd.R_types (Kd.R_types HO682.out BK671.out zq39) BK672.out zq39) (fun _ hk => hk.1.2) (.int .i64 t677)) (fun _ hk => hk.1.2) (.int .i64 t678)) (fun _ hk => hk.1.2) (.string t679)) (fun _ hk => hk.1.2) (.slice Ao17 t680.length co17)) (fun _ hk => hk.2) (.int .i64 t689)) (fun _ hk => hk.2) (.int .i64 t690)) (fun _ hk => hk.2) (.string t691)) (fun _ hk => hk.2) (.slice Ao43 t692.length co43)) (fun _ hk => hk.1.1.1.1)), Kd.R_V (by (with_reducible repeat (first | apply Kd.R_alloc | apply Kd.R_drewN | apply Kd.R_drew)); exact Kd.R_mono (Kd.R_far (p := ⟨gb672, 3, none⟩) (Kd.R_far (p := ⟨gb672, 2, none⟩) (Kd.R_far (p := ⟨gb672, 1, none⟩) (Kd.R_far (p := ⟨gb672, 0, none⟩) (Kd.R_far (p := ⟨gb671, 3, none⟩) (Kd.R_far (p := ⟨gb671, 2, none⟩) (Kd.R_far (p := ⟨gb671, 1, none⟩) (Kd.R_far (p := ⟨gb671, 0, none⟩) (Kd.R_types (Kd.R_types HO694.out BK671.out zq39) BK672.out zq39) (fun _ hk => hk.1.2) (.int .i64 t677)) (fun _ hk => hk.1.2) (.int .i64 t678)) (fun _ hk => hk.1.2) (.string t679)) (fun _ hk => hk.1.2) (.slice Ao17 t680.length co17)) (fun _ hk => hk.2) (.int .i64 t689)) (fun _ hk => hk.2) (.int .i64 t690)) (fun _ hk => hk.2) (.string t691)) (fun _ hk => hk.2) (.slice Ao43 t692.length co43)) (fun _ hk => hk.1.1.1.1)), zq95⟩

/-! ### spec_SameOid: function 129 -/
def spec_SameOid.l0 : Nat → List Int → List Int → Int → Option (Bool)
 | 0, _, _, _ => none
 | k + 1, x0, x1, x5 => if x5 < (x0.length : Int) then (if 0 ≤ x5 then (if x5 < (x1.length : Int) then (if (rd x0 x5) = (rd x1 x5) then (spec_SameOid.l0 k x0 x1 (wrap64 (x5 + 1))) else (some false)) else (none)) else (none)) else (some true)
def spec_SameOid.f (k : Nat) (l0 : List Int) (l1 : List Int) : Option (Bool) := if (l0.length : Int) = (l1.length : Int) then (spec_SameOid.l0 k l0 l1 0) else (some false)
theorem spec_SameOid.mono_l : ∀ k, (∀ y0 y1 y2, LeO (spec_SameOid.l0 k y0 y1 y2) (spec_SameOid.l0 (k + 1) y0 y1 y2))
 | 0 => fun _ _ _ r h => by simp [spec_SameOid.l0] at h
 | k + 1 => by
  have ih0 := spec_SameOid.mono_l k
  ·intro y0 y1 y2
   unfold spec_SameOid.l0
   exact zR
theorem spec_SameOid.mono : ∀ a0 a1 k, LeO (spec_SameOid.f k a0 a1) (spec_SameOid.f (k + 1) a0 a1) := by
 intro a0 a1 k
 have ih0 := spec_SameOid.mono_l k
 unfold spec_SameOid.f
 exact zR
set_option maxHeartbeats 8000000 in
set_option maxRecDepth 100000 in
theorem spec_SameOid.calls (k : Nat) (A0 : Option Addr) (c0 : Nat) (l0 : List Int) (A1 : Option Addr) (c1 : Nat) (l1 : List Int) (r : Bool) (w : World) (hr0 : Kd.C (Kd.int .i64) w A0 l0.length l0) (hc0 : l0.length ≤ c0) (hr1 : Kd.C (Kd.int .i64) w A1 l1.length l1) (hc1 : l1.length ≤ c1) (h : spec_SameOid.f k l0 l1 = some r) :
  Calls Try.prog 129 #[.slice A0 l0.length c0, .slice A1 l1.length c1] w fun e w' => e = .returned (.bool r) ∧ Drawn0 w w' := by
 have HR0 := zA hr0
 have HC0 := zA hc0
 clear hr0 hc0
 have HR1 := zA hr1
 have HC1 := zA hc1
 clear hr1 hc1
 unfold spec_SameOid.f at h
 have H := h
 clear h
 have HC3 := zA H
 clear H
 go_enter Try.func129, Try.ntmps129
 go_upto_region 0 with (fail)
 repeat (go_quiet (fail); go_upto_region 0 with (fail))
 have H := HC3.out
 clear HC3
 have HC4 := zA H
 clear H
 go_upto_region 1 with (fail)
 repeat (go_quiet (fail); go_upto_region 1 with (fail))
 have H := HC4.out
 clear HC4
 by_cases c5 : (l0.length : Int) = (l1.length : Int)
 ·rw [if_pos c5] at H
  have c5b0 : ((l0.length : Int) == (l1.length : Int)) = true := beq_iff_eq.mpr c5
  have c5b1 : ((l0.length : Int) != (l1.length : Int)) = false := bne_eq_false_iff_eq.mpr c5
  have c5b2 : (l0.length == l1.length) = true := by first | simpa using c5 | (simp at c5 ⊢; omega)
  clear c5
  have HC6 := zA H
  clear H
  go_upto_region 3 with (fail)
  repeat (go_quiet (fail); go_upto_region 3 with (fail))
  have H := HC6.out
  clear HC6
  have H' := zA H
  clear H
  go_wp2
  repeat (go_quiet (fail); try go_wp2)
  go_loopg [5] k (fun kq v5 w' => ∃ (x5_1 : Int), v5 = .int .i64 x5_1 ∧ Aside0 (spec_SameOid.l0 kq l0 l1 x5_1 = some r) ∧ Aside0 (kq ≤ k) ∧ Drawn0 w w')
  case atStart => exact ⟨(0), zq10, H', ⟨Nat.le_refl _⟩, zq38⟩
  case round =>
   clear H'
   try clear c1
   try clear p2
   try clear c5
   try clear c5b0
   try clear c5b1
   try clear c5b2
   obtain ⟨x5_1, rfl, HA, HK1, ⟨m1, rfl⟩⟩ := hrel
   cases gk with
   | zero => exact absurd HA.out (by simp [spec_SameOid.l0])
   | succ k1 =>
    have H := HA.out
    clear HA
    simp only [spec_SameOid.l0] at H
    have HC7 := zA H
    clear H
    go_upto_region 4 with (fail)
    repeat (go_quiet (fail); go_upto_region 4 with (fail))
    have H := HC7.out
    clear HC7
    by_cases c8 : x5_1 < (l0.length : Int)
    ·rw [if_pos c8] at H
     have c8b0 : decide (x5_1 < (l0.length : Int)) = true := decide_eq_true c8
     clear c8
     have HC9 := zA H
     clear H
     go_upto_region 6 with (fail)
     repeat (go_quiet (fail); go_upto_region 6 with (fail))
     have H := HC9.out
     clear HC9
     obtain ⟨c10, H⟩ := zN H
     have c10b0 : decide (0 ≤ x5_1) = true := decide_eq_true c10
     clear c10
     obtain ⟨c11, H⟩ := zN H
     have c11b0 : decide (x5_1 < (l1.length : Int)) = true := decide_eq_true c11
     clear c11
     by_cases c12 : (rd l0 x5_1) = (rd l1 x5_1)
     ·rw [if_pos c12] at H
      have c12b0 : ((rd l0 x5_1) == (rd l1 x5_1)) = true := beq_iff_eq.mpr c12
      have c12b1 : ((rd l0 x5_1) != (rd l1 x5_1)) = false := bne_eq_false_iff_eq.mpr c12
      clear c12
      have HC13 := zA H
      clear H
      have p697 : 0 ≤ (x5_1 : Int) := of_decide_eq_true zq7
      have q697 : x5_1 < (l0.length : Int) := of_decide_eq_true zq7
      obtain ⟨ad697, e697, hx697_0⟩ := Kd.at_int HR0.out x5_1 p697 q697
      cases e697
      replace p697 := eq_true p697
      replace q697 := eq_true q697
      have p698 : 0 ≤ (x5_1 : Int) := of_decide_eq_true zq7
      have q698 : x5_1 < (l1.length : Int) := of_decide_eq_true zq7
      obtain ⟨ad698, e698, hx698_0⟩ := Kd.at_int HR1.out x5_1 p698 q698
      cases e698
      replace p698 := eq_true p698
      replace q698 := eq_true q698
      go_upto_region 5 with (fail)
      repeat (go_quiet (fail); go_upto_region 5 with (fail))
      have H := HC13.out
      clear HC13
      have H' := zA H
      clear H
      go_wp2
      repeat (go_quiet (fail); try go_wp2)
      go_roundg k1
      case measure => have := HK1.out; omega
      case rel => exact ⟨(wrap64 (x5_1 + 1)), zq10, H', ⟨zq148⟩, zq38⟩
     ·rw [if_neg c12] at H
      have c12b0 : ((rd l0 x5_1) == (rd l1 x5_1)) = false := beq_eq_false_iff_ne.mpr c12
      have c12b1 : ((rd l0 x5_1) != (rd l1 x5_1)) = true := bne_iff_ne.mpr c12
      have HC14 := zA H
      clear H
      have p697 : 0 ≤ (x5_1 : Int) := of_decide_eq_true zq7
      have q697 : x5_1 < (l0.length : Int) := of_decide_eq_true zq7
      obtain ⟨ad697, e697, hx697_0⟩ := Kd.at_int HR0.out x5_1 p697 q697
      cases e697
      replace p697 := eq_true p697
      replace q697 := eq_true q697
      have p698 : 0 ≤ (x5_1 : Int) := of_decide_eq_true zq7
      have q698 : x5_1 < (l1.length : Int) := of_decide_eq_true zq7
      obtain ⟨ad698, e698, hx698_0⟩ := Kd.at_int HR1.out x5_1 p698 q698
      cases e698
      replace p698 := eq_true p698
      replace q698 := eq_true q698
      go_upto_region 7 with (fail)
      repeat (go_quiet (fail); go_upto_region 7 with (fail))
      have H := HC14.out
      clear HC14
      obtain rfl := Option.some.inj H
      go_wp2
      repeat (go_quiet (fail); try go_wp2)
      go_ret
      exact ⟨zq10, zq38⟩
    ·rw [if_neg c8] at H
     have c8b0 : decide (x5_1 < (l0.length : Int)) = false := decide_eq_false c8
     clear c8
     have HC15 := zA H
     clear H
     go_upto_region 8 with (fail)
     repeat (go_quiet (fail); go_upto_region 8 with (fail))
     have H := HC15.out
     clear HC15
     obtain rfl := Option.some.inj H
     go_wp2
     repeat (go_quiet (fail); try go_wp2)
     go_ret
     exact ⟨zq10, zq38⟩
 ·rw [if_neg c5] at H
  have c5b0 : ((l0.length : Int) == (l1.length : Int)) = false := beq_eq_false_iff_ne.mpr c5
  have c5b1 : ((l0.length : Int) != (l1.length : Int)) = true := bne_iff_ne.mpr c5
  have c5b2 : (l0.length == l1.length) = false := by first | simpa using c5 | (simp at c5 ⊢; omega)
  have HC16 := zA H
  clear H
  go_upto_region 2 with (fail)
  repeat (go_quiet (fail); go_upto_region 2 with (fail))
  have H := HC16.out
  clear HC16
  obtain rfl := Option.some.inj H
  go_wp2
  repeat (go_quiet (fail); try go_wp2)
  go_ret
  exact ⟨zq10, zq38⟩

/-! ### spec_SameVal: function 94 -/
def spec_SameVal.f (k : Nat) (a0_0 : Int) (a0_1 : Int) (a0_2 : ByteArray) (l0_3 : List Int) (a1_0 : Int) (a1_1 : Int) (a1_2 : ByteArray) (l1_3 : List Int) : Option (Bool) := if a0_0 = a1_0 then (if a0_1 = a1_1 then (if a0_2.toList = a1_2.toList then ((spec_SameOid.f k l0_3 l1_3).bind fun t701 => (some t701)) else (some false)) else (some false)) else (some false)
theorem spec_SameVal.mono : ∀ a0 a1 a2 a3 a4 a5 a6 a7 k, LeO (spec_SameVal.f k a0 a1 a2 a3 a4 a5 a6 a7) (spec_SameVal.f (k + 1) a0 a1 a2 a3 a4 a5 a6 a7) := by
 intro a0 a1 a2 a3 a4 a5 a6 a7 k
 unfold spec_SameVal.f
 have m0_ := @spec_SameOid.mono
 exact zR
set_option maxHeartbeats 8000000 in
set_option maxRecDepth 100000 in
theorem spec_SameVal.calls (k : Nat) (a0_0 : Int) (a0_1 : Int) (a0_2 : ByteArray) (A0_3 : Option Addr) (c0_3 : Nat) (l0_3 : List Int) (a1_0 : Int) (a1_1 : Int) (a1_2 : ByteArray) (A1_3 : Option Addr) (c1_3 : Nat) (l1_3 : List Int) (r : Bool) (w : World) (hr0_3 : Kd.C (Kd.int .i64) w A0_3 l0_3.length l0_3) (hc0_3 : l0_3.length ≤ c0_3) (hr1_3 : Kd.C (Kd.int .i64) w A1_3 l1_3.length l1_3) (hc1_3 : l1_3.length ≤ c1_3) (h : spec_SameVal.f k a0_0 a0_1 a0_2 l0_3 a1_0 a1_1 a1_2 l1_3 = some r) :
  Calls Try.prog 94 #[.agg #[.int .i64 a0_0, .int .i64 a0_1, .string a0_2, .slice A0_3 l0_3.length c0_3], .agg #[.int .i64 a1_0, .int .i64 a1_1, .string a1_2, .slice A1_3 l1_3.length c1_3]] w fun e w' => e = .returned (.bool r) ∧ Below w.heap.size w w' := by
 have hu76 := Try.underlying76
 have HR0_3 := zA hr0_3
 have HC0_3 := zA hc0_3
 clear hr0_3 hc0_3
 have HR1_3 := zA hr1_3
 have HC1_3 := zA hc1_3
 clear hr1_3 hc1_3
 have HB := zA (Below.refl w.heap.size w)
 unfold spec_SameVal.f at h
 have H := h
 clear h
 have HC3 := zA H
 clear H
 go_enter Try.func94, Try.ntmps94
 go_upto_region 0 with (fail)
 have H := HC3.out
 clear HC3
 have HC4 := zA H
 clear H
 go_upto_region 1 with (first | ((with_reducible refine gate_dst (N := 2) rfl ?_); refine box_event ?hg (N := 2) ?hd (cs := #[.int .i64 a0_0, .int .i64 a0_1, .string a0_2, .slice A0_3 l0_3.length c0_3]) (t := 76) ?hr ?_; (case hd => rfl); (case hg => rfl); (case hr => first | (go_simp; done) | (go_simp; rfl)); intro gb699 hg w5 hbox hb; have BK699 := zA (hbox); have GW699 := zA ((zq11 : w.heap.size ≤ gb699)); have GE699 := zA ((zq11 : w.heap.size ≤ gb699)); replace HB := zA (below_step zq0 hb); clear hb hbox hg) | ((with_reducible refine gate_dst (N := 3) rfl ?_); refine box_event ?hg (N := 3) ?hd (cs := #[.int .i64 a1_0, .int .i64 a1_1, .string a1_2, .slice A1_3 l1_3.length c1_3]) (t := 76) ?hr ?_; (case hd => rfl); (case hg => rfl); (case hr => first | (go_simp; done) | (go_simp; rfl)); intro gb700 hg w6 hbox hb; have BK700 := zA (hbox); have GW700 := zA ((zq196 : w.heap.size ≤ gb700)); have GE700 := zA ((zq196 : w.heap.size ≤ gb700)); replace HB := zA (below_step zq159 hb); have NB699_700 := zA ((by rw [hg]; exact Nat.ne_of_lt (blk_lt (g := gb699) (o := .cells #[.int .i64 a0_0, .int .i64 a0_1, .string a0_2, .slice A0_3 l0_3.length c0_3] 76 (0, 0)) zq183) : gb699 ≠ gb700)); have NB700_699 := zA ((by rw [hg]; exact Nat.ne_of_gt (blk_lt (g := gb699) (o := .cells #[.int .i64 a0_0, .int .i64 a0_1, .string a0_2, .slice A0_3 l0_3.length c0_3] 76 (0, 0)) zq183) : gb700 ≠ gb699)); replace BK699 := zA (blk_below (g := gb699) (o := .cells #[.int .i64 a0_0, .int .i64 a0_1, .string a0_2, .slice A0_3 l0_3.length c0_3] 76 (0, 0)) zq183 hb); clear hb hbox hg))
 (try simp only [Act.put, List.setIfInBounds_toArray, List.set_cons_zero, List.set_cons_succ])
 have H := HC4.out
 clear HC4
 by_cases c7 : a0_0 = a1_0
 ·rw [if_pos c7] at H
  have c7b0 : (a0_0 == a1_0) = true := beq_iff_eq.mpr c7
  have c7b1 : (a0_0 != a1_0) = false := bne_eq_false_iff_eq.mpr c7
  clear c7
  by_cases c8 : a0_1 = a1_1
  ·rw [if_pos c8] at H
   have c8b0 : (a0_1 == a1_1) = true := beq_iff_eq.mpr c8
   have c8b1 : (a0_1 != a1_1) = false := bne_eq_false_iff_eq.mpr c8
   clear c8
   by_cases c9 : a0_2.toList = a1_2.toList
   ·rw [if_pos c9] at H
    have c9b0 : (a0_2.toList == a1_2.toList) = true := beq_iff_eq.mpr c9
    have c9b1 : (a0_2.toList != a1_2.toList) = false := bne_eq_false_iff_eq.mpr c9
    clear c9
    obtain ⟨t701, A10, H⟩ := zB H
    try dsimp only at H
    obtain rfl := Option.some.inj H
    have hnb11 := NB699_700.out
    have hnc11 := NB700_699.out
    have hcz12_0 : w6.cell? ⟨gb699, 0, none⟩ = some (.int .i64 a0_0) := (blk_cell BK699.out 0).trans rfl
    have hcz12_1 : w6.cell? ⟨gb699, 1, none⟩ = some (.int .i64 a0_1) := (blk_cell BK699.out 1).trans rfl
    have hcz12_2 : w6.cell? ⟨gb699, 2, none⟩ = some (.string a0_2) := (blk_cell BK699.out 2).trans rfl
    have hcz12_3 : w6.cell? ⟨gb699, 3, none⟩ = some (.slice A0_3 l0_3.length c0_3) := (blk_cell BK699.out 3).trans rfl
    have hfz12_0 := blk_frozen BK699.out 0
    have hfz12_1 := blk_frozen BK699.out 1
    have hfz12_2 := blk_frozen BK699.out 2
    have hfz12_3 := blk_frozen BK699.out 3
    have hcz13_0 : w6.cell? ⟨gb700, 0, none⟩ = some (.int .i64 a1_0) := (blk_cell BK700.out 0).trans rfl
    have hcz13_1 : w6.cell? ⟨gb700, 1, none⟩ = some (.int .i64 a1_1) := (blk_cell BK700.out 1).trans rfl
    have hcz13_2 : w6.cell? ⟨gb700, 2, none⟩ = some (.string a1_2) := (blk_cell BK700.out 2).trans rfl
    have hcz13_3 : w6.cell? ⟨gb700, 3, none⟩ = some (.slice A1_3 l1_3.length c1_3) := (blk_cell BK700.out 3).trans rfl
    have hfz13_0 := blk_frozen BK700.out 0
    have hfz13_1 := blk_frozen BK700.out 1
    have hfz13_2 := blk_frozen BK700.out 2
    have hfz13_3 := blk_frozen BK700.out 3
    go_wp2_with (first | (go_at_call 129; (with_reducible refine (spec_SameOid.calls k _ _ l0_3 _ _ l1_3 t701 _ ?side1 ?side2 ?side3 ?side4 A10.out).mono ?_); (case side1 => repeat (first | exact (Kd.C_below HR0_3.out HB.out) | (with_reducible refine Kd.C_alloc ?_ _) | (with_reducible refine Kd.C_drewN ?_ _) | (with_reducible refine Kd.C_drew ?_))); (case side2 => exact HC0_3.out); (case side3 => repeat (first | exact (Kd.C_below HR1_3.out HB.out) | (with_reducible refine Kd.C_alloc ?_ _) | (with_reducible refine Kd.C_drewN ?_ _) | (with_reducible refine Kd.C_drew ?_))); (case side4 => exact HC1_3.out); rintro e w' ⟨rfl, ⟨nd, rfl⟩⟩))
    go_ret
    exact ⟨zq2, zq121⟩
   ·rw [if_neg c9] at H
    have c9b0 : (a0_2.toList == a1_2.toList) = false := beq_eq_false_iff_ne.mpr c9
    have c9b1 : (a0_2.toList != a1_2.toList) = true := bne_iff_ne.mpr c9
    obtain rfl := Option.some.inj H
    have hnb14 := NB699_700.out
    have hnc14 := NB700_699.out
    have hcz15_0 : w6.cell? ⟨gb699, 0, none⟩ = some (.int .i64 a0_0) := (blk_cell BK699.out 0).trans rfl
    have hcz15_1 : w6.cell? ⟨gb699, 1, none⟩ = some (.int .i64 a0_1) := (blk_cell BK699.out 1).trans rfl
    have hcz15_2 : w6.cell? ⟨gb699, 2, none⟩ = some (.string a0_2) := (blk_cell BK699.out 2).trans rfl
    have hcz15_3 : w6.cell? ⟨gb699, 3, none⟩ = some (.slice A0_3 l0_3.length c0_3) := (blk_cell BK699.out 3).trans rfl
    have hfz15_0 := blk_frozen BK699.out 0
    have hfz15_1 := blk_frozen BK699.out 1
    have hfz15_2 := blk_frozen BK699.out 2
    have hfz15_3 := blk_frozen BK699.out 3
    have hcz16_0 : w6.cell? ⟨gb700, 0, none⟩ = some (.int .i64 a1_0) := (blk_cell BK700.out 0).trans rfl
    have hcz16_1 : w6.cell? ⟨gb700, 1, none⟩ = some (.int .i64 a1_1) := (blk_cell BK700.out 1).trans rfl
    have hcz16_2 : w6.cell? ⟨gb700, 2, none⟩ = some (.string a1_2) := (blk_cell BK700.out 2).trans rfl
    have hcz16_3 : w6.cell? ⟨gb700, 3, none⟩ = some (.slice A1_3 l1_3.length c1_3) := (blk_cell BK700.out 3).trans rfl
    have hfz16_0 := blk_frozen BK700.out 0
    have hfz16_1 := blk_frozen BK700.out 1
    have hfz16_2 := blk_frozen BK700.out 2
    have hfz16_3 := blk_frozen BK700.out 3
    go_wp2
    go_ret
    exact ⟨zq2, zq121⟩
  ·rw [if_neg c8] at H
   have c8b0 : (a0_1 == a1_1) = false := beq_eq_false_iff_ne.mpr c8
   have c8b1 : (a0_1 != a1_1) = true := bne_iff_ne.mpr c8
   obtain rfl := Option.some.inj H
   have hnb17 := NB699_700.out
   have hnc17 := NB700_699.out
   have hcz18_0 : w6.cell? ⟨gb699, 0, none⟩ = some (.int .i64 a0_0) := (blk_cell BK699.out 0).trans rfl
   have hcz18_1 : w6.cell? ⟨gb699, 1, none⟩ = some (.int .i64 a0_1) := (blk_cell BK699.out 1).trans rfl
   have hcz18_2 : w6.cell? ⟨gb699, 2, none⟩ = some (.string a0_2) := (blk_cell BK699.out 2).trans rfl
   have hcz18_3 : w6.cell? ⟨gb699, 3, none⟩ = some (.slice A0_3 l0_3.length c0_3) := (blk_cell BK699.out 3).trans rfl
   have hfz18_0 := blk_frozen BK699.out 0
   have hfz18_1 := blk_frozen BK699.out 1
   have hfz18_2 := blk_frozen BK699.out 2
   have hfz18_3 := blk_frozen BK699.out 3
   have hcz19_0 : w6.cell? ⟨gb700, 0, none⟩ = some (.int .i64 a1_0) := (blk_cell BK700.out 0).trans rfl
   have hcz19_1 : w6.cell? ⟨gb700, 1, none⟩ = some (.int .i64 a1_1) := (blk_cell BK700.out 1).trans rfl
   have hcz19_2 : w6.cell? ⟨gb700, 2, none⟩ = some (.string a1_2) := (blk_cell BK700.out 2).trans rfl
   have hcz19_3 : w6.cell? ⟨gb700, 3, none⟩ = some (.slice A1_3 l1_3.length c1_3) := (blk_cell BK700.out 3).trans rfl
   have hfz19_0 := blk_frozen BK700.out 0
   have hfz19_1 := blk_frozen BK700.out 1
   have hfz19_2 := blk_frozen BK700.out 2
   have hfz19_3 := blk_frozen BK700.out 3
   go_wp2
   go_ret
   exact ⟨zq2, zq121⟩
 ·rw [if_neg c7] at H
  have c7b0 : (a0_0 == a1_0) = false := beq_eq_false_iff_ne.mpr c7
  have c7b1 : (a0_0 != a1_0) = true := bne_iff_ne.mpr c7
  obtain rfl := Option.some.inj H
  have hnb20 := NB699_700.out
  have hnc20 := NB700_699.out
  have hcz21_0 : w6.cell? ⟨gb699, 0, none⟩ = some (.int .i64 a0_0) := (blk_cell BK699.out 0).trans rfl
  have hcz21_1 : w6.cell? ⟨gb699, 1, none⟩ = some (.int .i64 a0_1) := (blk_cell BK699.out 1).trans rfl
  have hcz21_2 : w6.cell? ⟨gb699, 2, none⟩ = some (.string a0_2) := (blk_cell BK699.out 2).trans rfl
  have hcz21_3 : w6.cell? ⟨gb699, 3, none⟩ = some (.slice A0_3 l0_3.length c0_3) := (blk_cell BK699.out 3).trans rfl
  have hfz21_0 := blk_frozen BK699.out 0
  have hfz21_1 := blk_frozen BK699.out 1
  have hfz21_2 := blk_frozen BK699.out 2
  have hfz21_3 := blk_frozen BK699.out 3
  have hcz22_0 : w6.cell? ⟨gb700, 0, none⟩ = some (.int .i64 a1_0) := (blk_cell BK700.out 0).trans rfl
  have hcz22_1 : w6.cell? ⟨gb700, 1, none⟩ = some (.int .i64 a1_1) := (blk_cell BK700.out 1).trans rfl
  have hcz22_2 : w6.cell? ⟨gb700, 2, none⟩ = some (.string a1_2) := (blk_cell BK700.out 2).trans rfl
  have hcz22_3 : w6.cell? ⟨gb700, 3, none⟩ = some (.slice A1_3 l1_3.length c1_3) := (blk_cell BK700.out 3).trans rfl
  have hfz22_0 := blk_frozen BK700.out 0
  have hfz22_1 := blk_frozen BK700.out 1
  have hfz22_2 := blk_frozen BK700.out 2
  have hfz22_3 := blk_frozen BK700.out 3
  go_wp2
  go_ret
  exact ⟨zq2, zq121⟩

end Go.Proofs.Ytkcgghgkmgbphaa.PFnVals
