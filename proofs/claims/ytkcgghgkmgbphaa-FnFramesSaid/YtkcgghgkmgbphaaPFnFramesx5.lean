-- WRITTEN BY a turned copy of the kit's printer (wip/patch_print.py), for this claim
import Derived.Test.YtkcgghgkmgbphaaPFnFramesx0
import Derived.Test.YtkcgghgkmgbphaaPFnFramesx1
import Derived.Test.YtkcgghgkmgbphaaPFnFramesx2
import Derived.Test.YtkcgghgkmgbphaaPFnFramesx3
import Derived.Test.YtkcgghgkmgbphaaPFnFramesx4
namespace Go.Proofs.Ytkcgghgkmgbphaa.PFnFrames
open Go.RowKit Go.Proofs.YtkcgghgkmgbphaaW.PrintWords Go.Proofs.YtkcgghgkmgbphaaW.PrintLast Go.Proofs.YtkcgghgkmgbphaaW.PrintMore
attribute [local go_sem] max2_int min2_int max_two min_two max_three min_three max_four min_four   -- for this text's walks alone
set_option linter.unusedVariables false
set_option linter.unusedSimpArgs false

attribute [local go_sem] cell_setCell_m
/-! ### spec_GetFrame: function 43 -/
mutual
def spec_GetFrame.j0 : Nat → List Int → Bool → List Int → Int → Bool → Int → Int → Int → Option (Int × Int × Int × List Int × Bool)
 | 0, _, _, _, _, _, _, _, _ => none
 | k + 1, x0, x10, x202000, x202001, x202002, x203000, x203001, x203002 => if x10 = true then ((spec_l6Num.f k x202000 x202001 x202002 2).bind fun bt215 => (spec_GetFrame.j1 k x0 x10 x202000 bt215.2.1 bt215.2.2 x203000 x203001 bt215.1)) else (spec_GetFrame.j1 k x0 x10 x202000 x202001 x202002 x203000 x203001 x203002)
def spec_GetFrame.j1 : Nat → List Int → Bool → List Int → Int → Bool → Int → Int → Int → Option (Int × Int × Int × List Int × Bool)
 | 0, _, _, _, _, _, _, _, _ => none
 | k + 1, x0, x10, x202000, x202001, x202002, x203000, x203001, x203002 => (spec_l4Part.f x202000 x202001 x202002 3).bind fun bt218 => (if bt218.2.2 = true then (some (0, 0, 0, ([] : List Int), false)) else (if bt218.2.1 = (x0.length : Int) then ((spec_FrameOk.f x203000 x203001 x203002 bt218.1).bind fun t223 => (if t223 = true then (if x10 = true then (if x203002 = 0 then (some (0, 0, 0, ([] : List Int), false)) else (some (x203000, x203001, x203002, bt218.1, true))) else (some (x203000, x203001, x203002, bt218.1, true))) else (some (0, 0, 0, ([] : List Int), false)))) else (some (0, 0, 0, ([] : List Int), false))))
end
def spec_GetFrame.f (k : Nat) (l0 : List Int) : Option (Int × Int × Int × List Int × Bool) := (spec_l6Num.f k l0 0 false 1).bind fun bt203 => ((spec_l6Num.f k l0 bt203.2.1 bt203.2.2 1).bind fun bt206 => ((spec_GetTlv.f l0 bt206.2.1).bind fun bt209 => (if bt209.2.2.2 = true then (spec_GetFrame.j0 k l0 (bt209.1 == 2) l0 bt206.2.1 bt206.2.2 bt203.1 bt206.1 0) else (spec_GetFrame.j0 k l0 false l0 bt206.2.1 bt206.2.2 bt203.1 bt206.1 0))))
theorem spec_GetFrame.mono_l : ∀ k, (∀ y0 y1 y2 y3 y4 y5 y6 y7, LeO (spec_GetFrame.j0 k y0 y1 y2 y3 y4 y5 y6 y7) (spec_GetFrame.j0 (k + 1) y0 y1 y2 y3 y4 y5 y6 y7)) ∧ (∀ y0 y1 y2 y3 y4 y5 y6 y7, LeO (spec_GetFrame.j1 k y0 y1 y2 y3 y4 y5 y6 y7) (spec_GetFrame.j1 (k + 1) y0 y1 y2 y3 y4 y5 y6 y7))
 | 0 => ⟨fun _ _ _ _ _ _ _ _ r h => by simp [spec_GetFrame.j0] at h, fun _ _ _ _ _ _ _ _ r h => by simp [spec_GetFrame.j1] at h⟩
 | k + 1 => by
  obtain ⟨ih0, ih1⟩ := spec_GetFrame.mono_l k
  refine ⟨?_, ?_⟩
  ·intro y0 y1 y2 y3 y4 y5 y6 y7
   unfold spec_GetFrame.j0
   have m0_ := @spec_l6Num.mono
   exact zR
  ·intro y0 y1 y2 y3 y4 y5 y6 y7
   unfold spec_GetFrame.j1
   have m0_ := @spec_l6Num.mono
   exact zR
theorem spec_GetFrame.mono : ∀ a0 k, LeO (spec_GetFrame.f k a0) (spec_GetFrame.f (k + 1) a0) := by
 intro a0 k
 obtain ⟨ih0, ih1⟩ := spec_GetFrame.mono_l k
 unfold spec_GetFrame.f
 have m0_ := @spec_l6Num.mono
 exact zR
set_option maxHeartbeats 8000000 in
set_option maxRecDepth 100000 in
theorem spec_GetFrame.calls (k : Nat) (A0 : Option Addr) (c0 : Nat) (l0 : List Int) (r1 : Int) (r2 : Int) (r3 : Int) (r4 : List Int) (r5 : Bool) (w : World) (hr0 : Kd.C (Kd.int .u8) w A0 l0.length l0) (hc0 : l0.length ≤ c0) (h : spec_GetFrame.f k l0 = some (r1, r2, r3, r4, r5)) :
  Calls Try.prog 43 #[.slice A0 l0.length c0] w fun e w' => ∃ v3_ : Value, e = .returned (.tuple #[.agg #[.int .i64 r1, .int .i64 r2, .int .i64 r3, v3_], .bool r5]) ∧ Kd.R (Kd.int .u8) 5 w' w.heap.size (fun _ => True) v3_ r4 ∧ Below w.heap.size w w' := by
 have hu54 := Try.underlying54
 have hu135 := Try.underlying135
 have HR0 := zA hr0
 have HC0 := zA hc0
 clear hr0 hc0
 have HB := zA (Below.refl w.heap.size w)
 unfold spec_GetFrame.f at h
 have H := h
 clear h
 have HC2 := zA H
 clear H
 go_enter Try.func43, Try.ntmps43
 go_upto_region 0 with (fail)
 have H := HC2.out
 clear HC2
 have HC3 := zA H
 clear H
 go_upto_region 1 with (first | ((with_reducible refine gate_dst (N := 2) rfl ?_); (try (refine gate_guard zq110 ?_; dsimp only)); refine box_event ?hg (N := 2) ?hd (cs := #[.int .i64 0, .int .i64 0, .int .i64 0, .slice none 0 0]) (t := 54) ?hr ?_; (case hd => rfl); (case hg => rfl); (case hr => first | (go_simp; done) | (go_simp; rfl)); intro gb200 hg w4 hbox hb; have BK200 := zA (hbox); have GW200 := zA ((zq18 : w.heap.size ≤ gb200)); have GE200 := zA ((zq18 : w.heap.size ≤ gb200)); replace HB := zA (below_step zq0 hb); clear hb hbox hg))
 (try simp only [Act.put, List.setIfInBounds_toArray, List.set_cons_zero, List.set_cons_succ])
 have H := HC3.out
 clear HC3
 have HC5 := zA H
 clear H
 go_upto_region 2 with (first | ((with_reducible refine gate_dst (N := 13) rfl ?_); (try (refine gate_guard zq110 ?_; dsimp only)); refine box_event ?hg (N := 13) ?hd (cs := #[.slice A0 l0.length c0, .int .i64 0, .bool false]) (t := 135) ?hr ?_; (case hd => rfl); (case hg => rfl); (case hr => first | (go_simp; done) | (go_simp; rfl)); intro g201 hg w6 hbox hb2; have hi : IsS135 w w6 g201 l0 0 false := ⟨_, _, hbox, (by rw [hg]; exact (below_size zq188)), ⟨HR0.out, HC0.out⟩⟩; have hb := below_step zq188 hb2; replace HB := zA (hb); have HI201 := zA (hi); have NB201_200 := zA (IsS135.ne_blk hi (blk_below (g := gb200) (o := .cells #[.int .i64 0, .int .i64 0, .int .i64 0, .slice none 0 0] 54 (0, 0)) zq64 hb2) zq40); have NB200_201 := zA (Ne.symm (IsS135.ne_blk hi (blk_below (g := gb200) (o := .cells #[.int .i64 0, .int .i64 0, .int .i64 0, .slice none 0 0] 54 (0, 0)) zq64 hb2) zq40)); replace BK200 := zA (blk_below (g := gb200) (o := .cells #[.int .i64 0, .int .i64 0, .int .i64 0, .slice none 0 0] 54 (0, 0)) zq64 hb2); clear hb hb2 hbox hg hi))
 (try simp only [Act.put, List.setIfInBounds_toArray, List.set_cons_zero, List.set_cons_succ])
 have H := HC5.out
 clear HC5
 have HC7 := zA H
 clear H
 go_upto_region 3 with (first | ((with_reducible refine gate_dst (N := 5) rfl ?_); (try (refine gate_guard zq110 ?_; dsimp only)); refine box_event ?hg (N := 5) ?hd (cs := #[.int .i64 0, .int .i64 0, .int .i64 0, .slice none 0 0]) (t := 54) ?hr ?_; (case hd => rfl); (case hg => rfl); (case hr => first | (go_simp; done) | (go_simp; rfl)); intro gb202 hg w8 hbox hb; have BK202 := zA (hbox); have GW202 := zA ((zq175 : w.heap.size ≤ gb202)); have GE202 := zA ((zq175 : w.heap.size ≤ gb202)); replace HB := zA (below_step zq147 hb); have NB200_202 := zA ((by rw [hg]; exact Nat.ne_of_lt (blk_lt (g := gb200) (o := .cells #[.int .i64 0, .int .i64 0, .int .i64 0, .slice none 0 0] 54 (0, 0)) zq64) : gb200 ≠ gb202)); have NB202_200 := zA ((by rw [hg]; exact Nat.ne_of_gt (blk_lt (g := gb200) (o := .cells #[.int .i64 0, .int .i64 0, .int .i64 0, .slice none 0 0] 54 (0, 0)) zq64) : gb202 ≠ gb200)); replace BK200 := zA (blk_below (g := gb200) (o := .cells #[.int .i64 0, .int .i64 0, .int .i64 0, .slice none 0 0] 54 (0, 0)) zq64 hb); have NB201_202 := zA ((by rw [hg]; exact Nat.ne_of_lt (IsS135.lt (show IsS135 w _ g201 l0 0 false from by repeat (first | (with_reducible first | exact HI201.out | apply IsS135.alloc | apply IsS135.drewN | apply IsS135.drew | apply IsS135.set_1 | apply IsS135.set_2 | refine IsS135.far ?_ NB201_200.out _) | exact HI201.out))) : g201 ≠ gb202)); have NB202_201 := zA ((by rw [hg]; exact Nat.ne_of_gt (IsS135.lt (show IsS135 w _ g201 l0 0 false from by repeat (first | (with_reducible first | exact HI201.out | apply IsS135.alloc | apply IsS135.drewN | apply IsS135.drew | apply IsS135.set_1 | apply IsS135.set_2 | refine IsS135.far ?_ NB201_200.out _) | exact HI201.out))) : gb202 ≠ g201)); replace HI201 := zA (IsS135.below (by repeat (first | (with_reducible first | exact HI201.out | apply IsS135.alloc | apply IsS135.drewN | apply IsS135.drew | apply IsS135.set_1 | apply IsS135.set_2 | refine IsS135.far ?_ NB201_200.out _) | exact HI201.out)) hb); clear hb hbox hg; have hnb9 := NB202_200.out; have hnc9 := NB200_202.out; have hnb10 := NB202_201.out; have hnc10 := NB201_202.out; have hcz11_0 : w8.cell? ⟨gb202, 0, none⟩ = some (.int .i64 0) := (blk_cell BK202.out 0).trans rfl; have hcz11_1 : w8.cell? ⟨gb202, 1, none⟩ = some (.int .i64 0) := (blk_cell BK202.out 1).trans rfl; have hcz11_2 : w8.cell? ⟨gb202, 2, none⟩ = some (.int .i64 0) := (blk_cell BK202.out 2).trans rfl; have hcz11_3 : w8.cell? ⟨gb202, 3, none⟩ = some (.slice none 0 0) := (blk_cell BK202.out 3).trans rfl; have hfz11_0 := blk_frozen BK202.out 0; have hfz11_1 := blk_frozen BK202.out 1; have hfz11_2 := blk_frozen BK202.out 2; have hfz11_3 := blk_frozen BK202.out 3))
 (try simp only [Act.put, List.setIfInBounds_toArray, List.set_cons_zero, List.set_cons_succ])
 have H := HC7.out
 clear HC7
 obtain ⟨⟨t203, t204, t205⟩, A12, H⟩ := zB H
 try dsimp only at H
 have HC13 := zA H
 clear H
 go_upto_region 4 with (first | ((with_reducible refine gate_callee (f := 138) rfl ?_); refine goesL_ (some 16) rfl rfl Try.func138 (by kernel_rfl) rfl #[.pointer (some ⟨g201, 0, none⟩), .int .i64 1] rfl zq1 ?_; (with_reducible refine (spec_l6Num.calls k g201 l0 0 false 1 t203 t204 t205 w _ ?side1 ?side2 A12.out).mono ?_); (case side1 => repeat (first | (with_reducible first | exact HI201.out | apply IsS135.alloc | apply IsS135.drewN | apply IsS135.drew | apply IsS135.set_1 | apply IsS135.set_2 | refine IsS135.far ?_ NB201_200.out _ | refine IsS135.far ?_ NB201_202.out _) | exact HI201.out)); (case side2 => repeat (first | (with_reducible first | exact HB.out | apply below_alloc | apply pw_below_drewN | apply below_drew1 | refine below_set ?_ (IsS135.ge HI201.out) | refine below_set ?_ GE200.out | refine below_set ?_ GE202.out) | exact HB.out)); rintro e w14 ⟨rfl, hi, hb, hk⟩; refine ⟨_, rfl, ?_⟩; replace BK200 := zA (KeepBut.blk hk (g' := gb200) (o := .cells #[.int .i64 0, .int .i64 0, .int .i64 0, .slice none 0 0] 54 (0, 0)) (by (with_reducible repeat (first | refine blk_drewN ?_ _ | refine blk_drew ?_ | refine blk_alloc ?_ _)); refine blk_far ?_ NB200_202.out _; (with_reducible repeat (first | refine blk_drewN ?_ _ | refine blk_drew ?_ | refine blk_alloc ?_ _)); refine blk_far ?_ NB200_202.out _; (with_reducible repeat (first | refine blk_drewN ?_ _ | refine blk_drew ?_ | refine blk_alloc ?_ _)); refine blk_far ?_ NB200_202.out _; (with_reducible repeat (first | refine blk_drewN ?_ _ | refine blk_drew ?_ | refine blk_alloc ?_ _)); refine blk_far ?_ NB200_202.out _; (with_reducible repeat (first | refine blk_drewN ?_ _ | refine blk_drew ?_ | refine blk_alloc ?_ _)); exact BK200.out) NB200_201.out zq125); replace BK202 := zA (KeepBut.blk hk (g' := gb202) (o := .cells #[.int .i64 0, .int .i64 0, .int .i64 0, .slice none 0 0] 54 (0, 0)) (by (with_reducible repeat (first | refine blk_drewN ?_ _ | refine blk_drew ?_ | refine blk_alloc ?_ _)); refine blk_put (cs := #[.int .i64 0, .int .i64 0, .int .i64 0, .slice none 0 0]) ?_ 3 _ rfl; (with_reducible repeat (first | refine blk_drewN ?_ _ | refine blk_drew ?_ | refine blk_alloc ?_ _)); refine blk_put (cs := #[.int .i64 0, .int .i64 0, .int .i64 0, .slice none 0 0]) ?_ 2 _ rfl; (with_reducible repeat (first | refine blk_drewN ?_ _ | refine blk_drew ?_ | refine blk_alloc ?_ _)); refine blk_put (cs := #[.int .i64 0, .int .i64 0, .int .i64 0, .slice none 0 0]) ?_ 1 _ rfl; (with_reducible repeat (first | refine blk_drewN ?_ _ | refine blk_drew ?_ | refine blk_alloc ?_ _)); refine blk_put (cs := #[.int .i64 0, .int .i64 0, .int .i64 0, .slice none 0 0]) ?_ 0 _ rfl; (with_reducible repeat (first | refine blk_drewN ?_ _ | refine blk_drew ?_ | refine blk_alloc ?_ _)); exact BK202.out) NB202_201.out zq125); replace HB := zA (hb); replace HI201 := zA (hi); clear hb hk hi; have hnb15 := NB202_200.out; have hnc15 := NB200_202.out; have hnb16 := NB202_201.out; have hnc16 := NB201_202.out; have hcz17_0 : w14.cell? ⟨gb202, 0, none⟩ = some (.int .i64 0) := (blk_cell BK202.out 0).trans rfl; have hcz17_1 : w14.cell? ⟨gb202, 1, none⟩ = some (.int .i64 0) := (blk_cell BK202.out 1).trans rfl; have hcz17_2 : w14.cell? ⟨gb202, 2, none⟩ = some (.int .i64 0) := (blk_cell BK202.out 2).trans rfl; have hcz17_3 : w14.cell? ⟨gb202, 3, none⟩ = some (.slice none 0 0) := (blk_cell BK202.out 3).trans rfl; have hfz17_0 := blk_frozen BK202.out 0; have hfz17_1 := blk_frozen BK202.out 1; have hfz17_2 := blk_frozen BK202.out 2; have hfz17_3 := blk_frozen BK202.out 3))
 (try simp only [Act.put, List.setIfInBounds_toArray, List.set_cons_zero, List.set_cons_succ])
 have H := HC13.out
 clear HC13
 obtain ⟨⟨t206, t207, t208⟩, A18, H⟩ := zB H
 try dsimp only at H
 have HC19 := zA H
 clear H
 go_upto_region 5 with (first | ((with_reducible refine gate_callee (f := 138) rfl ?_); refine goesL_ (some 19) rfl rfl Try.func138 (by kernel_rfl) rfl #[.pointer (some ⟨g201, 0, none⟩), .int .i64 1] rfl zq1 ?_; (with_reducible refine (spec_l6Num.calls k g201 l0 t204 t205 1 t206 t207 t208 w _ ?side1 ?side2 A18.out).mono ?_); (case side1 => repeat (first | (with_reducible first | exact HI201.out | apply IsS135.alloc | apply IsS135.drewN | apply IsS135.drew | apply IsS135.set_1 | apply IsS135.set_2 | refine IsS135.far ?_ NB201_200.out _ | refine IsS135.far ?_ NB201_202.out _) | exact HI201.out)); (case side2 => repeat (first | (with_reducible first | exact HB.out | apply below_alloc | apply pw_below_drewN | apply below_drew1 | refine below_set ?_ (IsS135.ge HI201.out) | refine below_set ?_ GE200.out | refine below_set ?_ GE202.out) | exact HB.out)); rintro e w20 ⟨rfl, hi, hb, hk⟩; refine ⟨_, rfl, ?_⟩; replace BK200 := zA (KeepBut.blk hk (g' := gb200) (o := .cells #[.int .i64 0, .int .i64 0, .int .i64 0, .slice none 0 0] 54 (0, 0)) zq54 NB200_201.out zq125); replace BK202 := zA (KeepBut.blk hk (g' := gb202) (o := .cells #[.int .i64 t203, .int .i64 0, .int .i64 0, .slice none 0 0] 54 (0, 0)) (by (with_reducible repeat (first | refine blk_drewN ?_ _ | refine blk_drew ?_ | refine blk_alloc ?_ _)); refine blk_put (cs := #[.int .i64 0, .int .i64 0, .int .i64 0, .slice none 0 0]) ?_ 0 _ rfl; (with_reducible repeat (first | refine blk_drewN ?_ _ | refine blk_drew ?_ | refine blk_alloc ?_ _)); exact BK202.out) NB202_201.out zq125); replace HB := zA (hb); replace HI201 := zA (hi); clear hb hk hi; have hnb21 := NB202_200.out; have hnc21 := NB200_202.out; have hnb22 := NB202_201.out; have hnc22 := NB201_202.out; have hcz23_0 : w20.cell? ⟨gb202, 0, none⟩ = some (.int .i64 t203) := (blk_cell BK202.out 0).trans rfl; have hcz23_1 : w20.cell? ⟨gb202, 1, none⟩ = some (.int .i64 0) := (blk_cell BK202.out 1).trans rfl; have hcz23_2 : w20.cell? ⟨gb202, 2, none⟩ = some (.int .i64 0) := (blk_cell BK202.out 2).trans rfl; have hcz23_3 : w20.cell? ⟨gb202, 3, none⟩ = some (.slice none 0 0) := (blk_cell BK202.out 3).trans rfl; have hfz23_0 := blk_frozen BK202.out 0; have hfz23_1 := blk_frozen BK202.out 1; have hfz23_2 := blk_frozen BK202.out 2; have hfz23_3 := blk_frozen BK202.out 3))
 (try simp only [Act.put, List.setIfInBounds_toArray, List.set_cons_zero, List.set_cons_succ])
 have H := HC19.out
 clear HC19
 obtain ⟨⟨t209, t210, t211, t212⟩, A24, H⟩ := zB H
 try dsimp only at H
 have HC25 := zA H
 clear H
 obtain ⟨ASz26_0, cSz26_0, HGz26, hgz26, ⟨HSz26_0, HSKz26_0⟩⟩ := HI201.out
 have HSCz26_0 := zA HSKz26_0
 clear HSKz26_0
 have hcz26_0 := cellS135_0 HGz26
 have hcz26_1 := cellS135_1 HGz26
 have hcz26_2 := cellS135_2 HGz26
 have hfz26_1 := blk_frozen HGz26 1
 have hfz26_2 := blk_frozen HGz26 2
 clear HGz26 hgz26
 go_upto_region 6 with (first | ((with_reducible refine gate_callee (f := 117) rfl ?_); refine goesL_ (some 27) rfl rfl Try.func117 (by kernel_rfl) rfl #[.slice A0 l0.length c0, .int .i64 t207] rfl zq1 ?_; (with_reducible refine (spec_GetTlv.calls _ _ l0 t207 t209 t210 t211 t212 _ ?side1 ?side2 A24.out).mono ?_); (case side1 => exact Kd.C_below HR0.out zq14); (case side2 => exact HC0.out); rintro e w27 ⟨v213, rfl, ho0, hb⟩; refine ⟨_, rfl, ?_⟩; have HO214 := zA (Kd.R_lower ho0 (below_size zq14)); replace BK200 := zA (blk_below (g := gb200) (o := .cells #[.int .i64 0, .int .i64 0, .int .i64 0, .slice none 0 0] 54 (0, 0)) zq54 hb); replace BK202 := zA (blk_below (g := gb202) (o := .cells #[.int .i64 t203, .int .i64 t206, .int .i64 0, .slice none 0 0] 54 (0, 0)) (by (with_reducible repeat (first | refine blk_drewN ?_ _ | refine blk_drew ?_ | refine blk_alloc ?_ _)); refine blk_put (cs := #[.int .i64 t203, .int .i64 0, .int .i64 0, .slice none 0 0]) ?_ 1 _ rfl; (with_reducible repeat (first | refine blk_drewN ?_ _ | refine blk_drew ?_ | refine blk_alloc ?_ _)); exact BK202.out) hb); replace HB := zA (below_step zq14 hb); replace HI201 := zA (IsS135.below (show IsS135 w (w20.setCell ⟨gb202, 1, none⟩ (.int .i64 t206)) g201 l0 t207 t208 from by repeat (first | (with_reducible first | exact HI201.out | apply IsS135.alloc | apply IsS135.drewN | apply IsS135.drew | apply IsS135.set_1 | apply IsS135.set_2 | refine IsS135.far ?_ NB201_200.out _ | refine IsS135.far ?_ NB201_202.out _) | exact HI201.out)) hb); clear hb ho0))
 (try simp only [Act.put, List.setIfInBounds_toArray, List.set_cons_zero, List.set_cons_succ])
 have H := HC25.out
 clear HC25
 have HC28 := zA H
 clear H
 go_upto_region 6 with (fail)
 go_cut [10] (fun v10 wc => ∃ (kq : Nat) (x10_27 : Bool), v10 = .bool x10_27 ∧ Aside0 (spec_GetFrame.j0 kq l0 x10_27 l0 t207 t208 t203 t206 0 = some (r1, r2, r3, r4, r5)) ∧ Aside0 (kq ≤ k) ∧ Aside0 (wc.heap[gb200]? = some (.cells #[.int .i64 0, .int .i64 0, .int .i64 0, (.slice none 0 0)] 54 (0, 0))) ∧ Aside0 (wc.heap[gb202]? = some (.cells #[.int .i64 t203, .int .i64 t206, .int .i64 0, (.slice none 0 0)] 54 (0, 0))) ∧ Aside0 (IsS135 w wc g201 l0 t207 t208) ∧ Aside0 (Below w.heap.size w wc))
 case first =>
  have H := HC28.out
  clear HC28
  by_cases c29 : t212 = true
  ·subst c29
   rw [if_pos rfl] at H
   have H' := zA H
   clear H
   go_wp2
   go_meet
   case rel => exact ⟨_, ((t209 == 2)), zq25, H', ⟨zq97⟩, ⟨zq64⟩, ⟨zq145⟩, ⟨zq96⟩, ⟨zq14⟩⟩
  ·replace c29 := Bool.eq_false_iff.mpr c29
   subst c29
   rw [if_neg zF] at H
   have H' := zA H
   clear H
   go_wp2
   go_meet
   case rel => exact ⟨_, (false), zq25, H', ⟨zq97⟩, ⟨zq64⟩, ⟨zq145⟩, ⟨zq96⟩, ⟨zq14⟩⟩
 case rest =>
  clear HC28
  try clear c1
  try clear c2
  try clear p2
  try clear c4
  try clear c9
  try clear c10
  try clear c11
  try clear c13
  try clear c15
  try clear c16
  try clear c21
  try clear c22
  try clear c29
  try clear hcz11_0
  try clear hcz11_1
  try clear hcz11_2
  try clear hcz11_3
  try clear hcz17_0
  try clear hcz17_1
  try clear hcz17_2
  try clear hcz17_3
  try clear hcz23_0
  try clear hcz23_1
  try clear hcz23_2
  try clear hcz23_3
  try clear hcz26_0
  try clear hcz26_1
  try clear hcz26_2
  try clear hfz11_0
  try clear hfz11_1
  try clear hfz11_2
  try clear hfz11_3
  try clear hfz17_0
  try clear hfz17_1
  try clear hfz17_2
  try clear hfz17_3
  try clear hfz23_0
  try clear hfz23_1
  try clear hfz23_2
  try clear hfz23_3
  try clear hfz26_1
  try clear hfz26_2
  obtain ⟨kq, x10_27, rfl, HA, HJ27, BK200, BK202, HI201, HB⟩ := hcut
  cases kq with
  | zero => exact absurd HA.out (by simp [spec_GetFrame.j0])
  | succ kj27 =>
   have H := HA.out
   clear HA
   simp only [spec_GetFrame.j0] at H
   have HC30 := zA H
   clear H
   go_upto_region 7 with (fail)
   have H := HC30.out
   clear HC30
   have HC31 := zA H
   clear H
   go_upto_if 37 with (fail)
   go_cut [] (fun wc => ∃ (kq : Nat) (x202001_30 : Int) (x202002_30 : Bool) (x203002_30 : Int), Aside0 (spec_GetFrame.j1 kq l0 x10_27 l0 x202001_30 x202002_30 t203 t206 x203002_30 = some (r1, r2, r3, r4, r5)) ∧ Aside0 (kq ≤ kj27) ∧ Aside0 (wc.heap[gb200]? = some (.cells #[.int .i64 0, .int .i64 0, .int .i64 0, (.slice none 0 0)] 54 (0, 0))) ∧ Aside0 (wc.heap[gb202]? = some (.cells #[.int .i64 t203, .int .i64 t206, .int .i64 x203002_30, (.slice none 0 0)] 54 (0, 0))) ∧ Aside0 (IsS135 w wc g201 l0 x202001_30 x202002_30) ∧ Aside0 (Below w.heap.size w wc))
   case first =>
    have H := HC31.out
    clear HC31
    by_cases c32 : x10_27 = true
    ·subst c32
     rw [if_pos rfl] at H
     have HC33 := zA H
     clear H
     go_upto_region 8 with (fail)
     have H := HC33.out
     clear HC33
     obtain ⟨⟨t215, t216, t217⟩, A34, H⟩ := zB H
     try dsimp only at H
     have H' := zA H
     clear H
     go_wp2_with (first | ((with_reducible refine gate_callee (f := 138) rfl ?_); refine goesL_ (some 39) rfl rfl Try.func138 (by kernel_rfl) rfl #[.pointer (some ⟨g201, 0, none⟩), .int .i64 2] rfl zq1 ?_; (with_reducible refine (spec_l6Num.calls kj27 g201 l0 t207 t208 2 t215 t216 t217 w _ ?side1 ?side2 A34.out).mono ?_); (case side1 => repeat (first | (with_reducible first | exact HI201.out | apply IsS135.alloc | apply IsS135.drewN | apply IsS135.drew | apply IsS135.set_1 | apply IsS135.set_2 | refine IsS135.far ?_ NB201_200.out _ | refine IsS135.far ?_ NB201_202.out _) | exact HI201.out)); (case side2 => repeat (first | (with_reducible first | exact HB.out | apply below_alloc | apply pw_below_drewN | apply below_drew1 | refine below_set ?_ (IsS135.ge HI201.out) | refine below_set ?_ GE200.out | refine below_set ?_ GE202.out) | exact HB.out)); rintro e w35 ⟨rfl, hi, hb, hk⟩; refine ⟨_, rfl, ?_⟩; replace BK200 := zA (KeepBut.blk hk (g' := gb200) (o := .cells #[.int .i64 0, .int .i64 0, .int .i64 0, .slice none 0 0] 54 (0, 0)) zq64 NB200_201.out zq125); replace BK202 := zA (KeepBut.blk hk (g' := gb202) (o := .cells #[.int .i64 t203, .int .i64 t206, .int .i64 0, .slice none 0 0] 54 (0, 0)) zq145 NB202_201.out zq125); replace HB := zA (hb); replace HI201 := zA (hi); clear hb hk hi; have hnb36 := NB202_200.out; have hnc36 := NB200_202.out; have hnb37 := NB202_201.out; have hnc37 := NB201_202.out; have hcz38_0 : w35.cell? ⟨gb202, 0, none⟩ = some (.int .i64 t203) := (blk_cell BK202.out 0).trans rfl; have hcz38_1 : w35.cell? ⟨gb202, 1, none⟩ = some (.int .i64 t206) := (blk_cell BK202.out 1).trans rfl; have hcz38_2 : w35.cell? ⟨gb202, 2, none⟩ = some (.int .i64 0) := (blk_cell BK202.out 2).trans rfl; have hcz38_3 : w35.cell? ⟨gb202, 3, none⟩ = some (.slice none 0 0) := (blk_cell BK202.out 3).trans rfl; have hfz38_0 := blk_frozen BK202.out 0; have hfz38_1 := blk_frozen BK202.out 1; have hfz38_2 := blk_frozen BK202.out 2; have hfz38_3 := blk_frozen BK202.out 3))
     go_meet
     case rel => exact ⟨_, (t216), (t217), (t215), H', ⟨(by have := HJ27.out; first | omega | exact Nat.le_refl _)⟩, ⟨zq54⟩, ⟨(by (with_reducible repeat (first | refine blk_drewN ?_ _ | refine blk_drew ?_ | refine blk_alloc ?_ _)); refine blk_put (cs := #[.int .i64 t203, .int .i64 t206, .int .i64 0, .slice none 0 0]) ?_ 2 _ rfl; (with_reducible repeat (first | refine blk_drewN ?_ _ | refine blk_drew ?_ | refine blk_alloc ?_ _)); exact BK202.out)⟩, ⟨zq96⟩, ⟨zq14⟩⟩
    ·replace c32 := Bool.eq_false_iff.mpr c32
     subst c32
     rw [if_neg zF] at H
     have H' := zA H
     clear H
     go_wp2
     go_meet
     case rel => exact ⟨_, (t207), (t208), (0), H', ⟨(by have := HJ27.out; first | omega | exact Nat.le_refl _)⟩, ⟨zq64⟩, ⟨zq145⟩, ⟨zq96⟩, ⟨zq14⟩⟩
   case rest =>
    clear HC31
    try clear c1
    try clear c2
    try clear p2
    try clear c3
    try clear c4
    try clear c9
    try clear c10
    try clear c11
    try clear c13
    try clear c15
    try clear c16
    try clear c21
    try clear c22
    try clear c29
    try clear c32
    try clear c36
    try clear c37
    try clear hcz11_0
    try clear hcz11_1
    try clear hcz11_2
    try clear hcz11_3
    try clear hcz17_0
    try clear hcz17_1
    try clear hcz17_2
    try clear hcz17_3
    try clear hcz23_0
    try clear hcz23_1
    try clear hcz23_2
    try clear hcz23_3
    try clear hcz26_0
    try clear hcz26_1
    try clear hcz26_2
    try clear hcz38_0
    try clear hcz38_1
    try clear hcz38_2
    try clear hcz38_3
    try clear hfz11_0
    try clear hfz11_1
    try clear hfz11_2
    try clear hfz11_3
    try clear hfz17_0
    try clear hfz17_1
    try clear hfz17_2
    try clear hfz17_3
    try clear hfz23_0
    try clear hfz23_1
    try clear hfz23_2
    try clear hfz23_3
    try clear hfz26_1
    try clear hfz26_2
    try clear hfz38_0
    try clear hfz38_1
    try clear hfz38_2
    try clear hfz38_3
    try clear p2
    obtain ⟨kq, x202001_30, x202002_30, x203002_30, HA, HJ30, BK200, BK202, HI201, HB⟩ := hcut
    cases kq with
    | zero => exact absurd HA.out (by simp [spec_GetFrame.j1])
    | succ kj30 =>
     have H := HA.out
     clear HA
     simp only [spec_GetFrame.j1] at H
     have HC39 := zA H
     clear H
     go_upto_region 9 with (fail)
     have H := HC39.out
     clear HC39
     obtain ⟨⟨t218, t221, t222⟩, A40, H⟩ := zB H
     try dsimp only at H
     have HC41 := zA H
     clear H
     go_upto_region 10 with (first | ((with_reducible refine gate_callee (f := 119) rfl ?_); refine goesL_ (some 42) rfl rfl Try.func119 (by kernel_rfl) rfl #[.pointer (some ⟨g201, 0, none⟩), .int .i64 3] rfl zq1 ?_; (with_reducible refine (spec_l4Part.calls g201 l0 x202001_30 x202002_30 3 t218 t221 t222 w _ ?side1 ?side2 A40.out).mono ?_); (case side1 => repeat (first | (with_reducible first | exact HI201.out | apply IsS135.alloc | apply IsS135.drewN | apply IsS135.drew | apply IsS135.set_1 | apply IsS135.set_2 | refine IsS135.far ?_ NB201_200.out _ | refine IsS135.far ?_ NB201_202.out _) | exact HI201.out)); (case side2 => repeat (first | (with_reducible first | exact HB.out | apply below_alloc | apply pw_below_drewN | apply below_drew1 | refine below_set ?_ (IsS135.ge HI201.out) | refine below_set ?_ GE200.out | refine below_set ?_ GE202.out) | exact HB.out)); rintro e w42 ⟨v219, rfl, ho0, hi, hb, hk⟩; refine ⟨_, rfl, ?_⟩; replace BK200 := zA (KeepBut.blk hk (g' := gb200) (o := .cells #[.int .i64 0, .int .i64 0, .int .i64 0, .slice none 0 0] 54 (0, 0)) zq64 NB200_201.out zq125); replace BK202 := zA (KeepBut.blk hk (g' := gb202) (o := .cells #[.int .i64 t203, .int .i64 t206, .int .i64 x203002_30, .slice none 0 0] 54 (0, 0)) zq145 NB202_201.out zq125); have HO220 := zA (Kd.R_lower ho0 (below_size zq14)); replace HB := zA (hb); replace HI201 := zA (hi); clear hb hk hi ho0; obtain ⟨Ao43, co43, eo43⟩ := Kd.R_slice HO220.out; subst eo43; have hnb44 := NB202_200.out; have hnc44 := NB200_202.out; have hnb45 := NB202_201.out; have hnc45 := NB201_202.out; have hcz46_0 : w42.cell? ⟨gb202, 0, none⟩ = some (.int .i64 t203) := (blk_cell BK202.out 0).trans rfl; have hcz46_1 : w42.cell? ⟨gb202, 1, none⟩ = some (.int .i64 t206) := (blk_cell BK202.out 1).trans rfl; have hcz46_2 : w42.cell? ⟨gb202, 2, none⟩ = some (.int .i64 x203002_30) := (blk_cell BK202.out 2).trans rfl; have hcz46_3 : w42.cell? ⟨gb202, 3, none⟩ = some (.slice none 0 0) := (blk_cell BK202.out 3).trans rfl; have hfz46_0 := blk_frozen BK202.out 0; have hfz46_1 := blk_frozen BK202.out 1; have hfz46_2 := blk_frozen BK202.out 2; have hfz46_3 := blk_frozen BK202.out 3))
     (try simp only [Act.put, List.setIfInBounds_toArray, List.set_cons_zero, List.set_cons_succ])
     have H := HC41.out
     clear HC41
     by_cases c47 : t222 = true
     ·subst c47
      rw [if_pos rfl] at H
      have HC48 := zA H
      clear H
      obtain ⟨ASz49_0, cSz49_0, HGz49, hgz49, ⟨HSz49_0, HSKz49_0⟩⟩ := HI201.out
      have HSCz49_0 := zA HSKz49_0
      clear HSKz49_0
      have hcz49_0 := cellS135_0 HGz49
      have hcz49_1 := cellS135_1 HGz49
      have hcz49_2 := cellS135_2 HGz49
      have hfz49_1 := blk_frozen HGz49 1
      have hfz49_2 := blk_frozen HGz49 2
      clear HGz49 hgz49
      go_upto_region 11 with (fail)
      have H := HC48.out
      clear HC48
      simp only [Option.some.injEq, Prod.mk.injEq] at H
      obtain ⟨rfl, rfl, rfl, rfl, rfl⟩ := H
      have hnb50 := NB200_202.out
      have hnc50 := NB202_200.out
      have hnb51 := NB200_201.out
      have hnc51 := NB201_200.out
      have hcz52_0 : w42.cell? ⟨gb200, 0, none⟩ = some (.int .i64 0) := (blk_cell BK200.out 0).trans rfl
      have hcz52_1 : w42.cell? ⟨gb200, 1, none⟩ = some (.int .i64 0) := (blk_cell BK200.out 1).trans rfl
      have hcz52_2 : w42.cell? ⟨gb200, 2, none⟩ = some (.int .i64 0) := (blk_cell BK200.out 2).trans rfl
      have hcz52_3 : w42.cell? ⟨gb200, 3, none⟩ = some (.slice none 0 0) := (blk_cell BK200.out 3).trans rfl
      have hfz52_0 := blk_frozen BK200.out 0
      have hfz52_1 := blk_frozen BK200.out 1
      have hfz52_2 := blk_frozen BK200.out 2
      have hfz52_3 := blk_frozen BK200.out 3
      go_wp2
      refine bodyPost_ret (results_ct rfl _ _ gb200 54 #[.int .i64 0, .int .i64 0, .int .i64 0, .slice none 0 0] (0, 0) _ rfl zq73 Try.underlying54 rfl (by kernel_rfl)) rfl ?_
      exact ⟨_, zq5, zq20, zq14⟩
     ·replace c47 := Bool.eq_false_iff.mpr c47
      subst c47
      rw [if_neg zF] at H
      by_cases c53 : t221 = (l0.length : Int)
      ·rw [if_pos c53] at H
       have c53b0 : (t221 == (l0.length : Int)) = true := beq_iff_eq.mpr c53
       have c53b1 : (t221 != (l0.length : Int)) = false := bne_eq_false_iff_eq.mpr c53
       clear c53
       obtain ⟨t223, A54, H⟩ := zB H
       try dsimp only at H
       by_cases c55 : t223 = true
       ·subst c55
        rw [if_pos rfl] at H
        by_cases c56 : x10_27 = true
        ·subst c56
         rw [if_pos rfl] at H
         by_cases c57 : x203002_30 = 0
         ·rw [if_pos c57] at H
          have c57b0 : (x203002_30 == 0) = true := beq_iff_eq.mpr c57
          have c57b1 : (x203002_30 != 0) = false := bne_eq_false_iff_eq.mpr c57
          clear c57
          have HC58 := zA H
          clear H
          obtain ⟨ASz59_0, cSz59_0, HGz59, hgz59, ⟨HSz59_0, HSKz59_0⟩⟩ := HI201.out
          have HSCz59_0 := zA HSKz59_0
          clear HSKz59_0
          have hcz59_0 := cellS135_0 HGz59
          have hcz59_1 := cellS135_1 HGz59
          have hcz59_2 := cellS135_2 HGz59
          have hfz59_1 := blk_frozen HGz59 1
          have hfz59_2 := blk_frozen HGz59 2
          clear HGz59 hgz59
          have hnb60 := NB202_200.out
          have hnc60 := NB200_202.out
          have hnb61 := NB202_201.out
          have hnc61 := NB201_202.out
          have hcz62_0 : w42.cell? ⟨gb202, 0, none⟩ = some (.int .i64 t203) := (blk_cell BK202.out 0).trans rfl
          have hcz62_1 : w42.cell? ⟨gb202, 1, none⟩ = some (.int .i64 t206) := (blk_cell BK202.out 1).trans rfl
          have hcz62_2 : w42.cell? ⟨gb202, 2, none⟩ = some (.int .i64 x203002_30) := (blk_cell BK202.out 2).trans rfl
          have hcz62_3 : w42.cell? ⟨gb202, 3, none⟩ = some (.slice none 0 0) := (blk_cell BK202.out 3).trans rfl
          have hfz62_0 := blk_frozen BK202.out 0
          have hfz62_1 := blk_frozen BK202.out 1
          have hfz62_2 := blk_frozen BK202.out 2
          have hfz62_3 := blk_frozen BK202.out 3
          go_upto_region 11 with (first | (go_at_call 80; (with_reducible refine (spec_FrameOk.calls t203 t206 x203002_30 _ _ t218 true _ ?side1 ?side2 A54.out).mono ?_); (case side1 => refine (Kd.R_reads' (e := 5) (base := w.heap.size) (ok := fun k_ => True) (n := t218.length) (c := co43) ?_).2.2; exact zq46); (case side2 => exact (Kd.R_reads' HO220.out).2.1); rintro e w63 ⟨rfl, hb⟩; replace HO220 := zA (Kd.R_below zq46 hb); replace BK200 := zA (blk_below (g := gb200) (o := .cells #[.int .i64 0, .int .i64 0, .int .i64 0, .slice none 0 0] 54 (0, 0)) zq54 hb); replace BK202 := zA (blk_below (g := gb202) (o := .cells #[.int .i64 t203, .int .i64 t206, .int .i64 x203002_30, .slice Ao43 t218.length co43] 54 (0, 0)) zq75 hb); replace HB := zA (below_step zq14 hb); replace HI201 := zA (IsS135.below (show IsS135 w (w42.setCell ⟨gb202, 3, none⟩ (.slice Ao43 t218.length co43)) g201 l0 t221 false from by repeat (first | (with_reducible first | exact HI201.out | apply IsS135.alloc | apply IsS135.drewN | apply IsS135.drew | apply IsS135.set_1 | apply IsS135.set_2 | refine IsS135.far ?_ NB201_200.out _ | refine IsS135.far ?_ NB201_202.out _) | exact HI201.out)) hb); clear hb; have hcz64_0 : w63.cell? ⟨gb202, 0, none⟩ = some (.int .i64 t203) := (blk_cell BK202.out 0).trans rfl; have hcz64_1 : w63.cell? ⟨gb202, 1, none⟩ = some (.int .i64 t206) := (blk_cell BK202.out 1).trans rfl; have hcz64_2 : w63.cell? ⟨gb202, 2, none⟩ = some (.int .i64 x203002_30) := (blk_cell BK202.out 2).trans rfl; have hcz64_3 : w63.cell? ⟨gb202, 3, none⟩ = some (.slice Ao43 t218.length co43) := (blk_cell BK202.out 3).trans rfl; have hfz64_0 := blk_frozen BK202.out 0; have hfz64_1 := blk_frozen BK202.out 1; have hfz64_2 := blk_frozen BK202.out 2; have hfz64_3 := blk_frozen BK202.out 3))
          (try simp only [Act.put, List.setIfInBounds_toArray, List.set_cons_zero, List.set_cons_succ])
          have H := HC58.out
          clear HC58
          simp only [Option.some.injEq, Prod.mk.injEq] at H
          obtain ⟨rfl, rfl, rfl, rfl, rfl⟩ := H
          have hnb65 := NB200_202.out
          have hnc65 := NB202_200.out
          have hnb66 := NB200_201.out
          have hnc66 := NB201_200.out
          have hcz67_0 : w63.cell? ⟨gb200, 0, none⟩ = some (.int .i64 0) := (blk_cell BK200.out 0).trans rfl
          have hcz67_1 : w63.cell? ⟨gb200, 1, none⟩ = some (.int .i64 0) := (blk_cell BK200.out 1).trans rfl
          have hcz67_2 : w63.cell? ⟨gb200, 2, none⟩ = some (.int .i64 0) := (blk_cell BK200.out 2).trans rfl
          have hcz67_3 : w63.cell? ⟨gb200, 3, none⟩ = some (.slice none 0 0) := (blk_cell BK200.out 3).trans rfl
          have hfz67_0 := blk_frozen BK200.out 0
          have hfz67_1 := blk_frozen BK200.out 1
          have hfz67_2 := blk_frozen BK200.out 2
          have hfz67_3 := blk_frozen BK200.out 3
          go_wp2
          refine bodyPost_ret (results_ct rfl _ _ gb200 54 #[.int .i64 0, .int .i64 0, .int .i64 0, .slice none 0 0] (0, 0) _ rfl zq82 Try.underlying54 rfl (by kernel_rfl)) rfl ?_
          exact ⟨_, zq5, zq20, zq14⟩
         ·rw [if_neg c57] at H
          have c57b0 : (x203002_30 == 0) = false := beq_eq_false_iff_ne.mpr c57
          have c57b1 : (x203002_30 != 0) = true := bne_iff_ne.mpr c57
          have HC68 := zA H
          clear H
          obtain ⟨ASz69_0, cSz69_0, HGz69, hgz69, ⟨HSz69_0, HSKz69_0⟩⟩ := HI201.out
          have HSCz69_0 := zA HSKz69_0
          clear HSKz69_0
          have hcz69_0 := cellS135_0 HGz69
          have hcz69_1 := cellS135_1 HGz69
          have hcz69_2 := cellS135_2 HGz69
          have hfz69_1 := blk_frozen HGz69 1
          have hfz69_2 := blk_frozen HGz69 2
          clear HGz69 hgz69
          have hnb70 := NB202_200.out
          have hnc70 := NB200_202.out
          have hnb71 := NB202_201.out
          have hnc71 := NB201_202.out
          have hcz72_0 : w42.cell? ⟨gb202, 0, none⟩ = some (.int .i64 t203) := (blk_cell BK202.out 0).trans rfl
          have hcz72_1 : w42.cell? ⟨gb202, 1, none⟩ = some (.int .i64 t206) := (blk_cell BK202.out 1).trans rfl
          have hcz72_2 : w42.cell? ⟨gb202, 2, none⟩ = some (.int .i64 x203002_30) := (blk_cell BK202.out 2).trans rfl
          have hcz72_3 : w42.cell? ⟨gb202, 3, none⟩ = some (.slice none 0 0) := (blk_cell BK202.out 3).trans rfl
          have hfz72_0 := blk_frozen BK202.out 0
          have hfz72_1 := blk_frozen BK202.out 1
          have hfz72_2 := blk_frozen BK202.out 2
          have hfz72_3 := blk_frozen BK202.out 3
          go_upto_region 12 with (first | (go_at_call 80; (with_reducible refine (spec_FrameOk.calls t203 t206 x203002_30 _ _ t218 true _ ?side1 ?side2 A54.out).mono ?_); (case side1 => refine (Kd.R_reads' (e := 5) (base := w.heap.size) (ok := fun k_ => True) (n := t218.length) (c := co43) ?_).2.2; exact zq46); (case side2 => exact (Kd.R_reads' HO220.out).2.1); rintro e w73 ⟨rfl, hb⟩; replace HO220 := zA (Kd.R_below zq46 hb); replace BK200 := zA (blk_below (g := gb200) (o := .cells #[.int .i64 0, .int .i64 0, .int .i64 0, .slice none 0 0] 54 (0, 0)) zq54 hb); replace BK202 := zA (blk_below (g := gb202) (o := .cells #[.int .i64 t203, .int .i64 t206, .int .i64 x203002_30, .slice Ao43 t218.length co43] 54 (0, 0)) zq75 hb); replace HB := zA (below_step zq14 hb); replace HI201 := zA (IsS135.below (show IsS135 w (w42.setCell ⟨gb202, 3, none⟩ (.slice Ao43 t218.length co43)) g201 l0 t221 false from by repeat (first | (with_reducible first | exact HI201.out | apply IsS135.alloc | apply IsS135.drewN | apply IsS135.drew | apply IsS135.set_1 | apply IsS135.set_2 | refine IsS135.far ?_ NB201_200.out _ | refine IsS135.far ?_ NB201_202.out _) | exact HI201.out)) hb); clear hb; have hcz74_0 : w73.cell? ⟨gb202, 0, none⟩ = some (.int .i64 t203) := (blk_cell BK202.out 0).trans rfl; have hcz74_1 : w73.cell? ⟨gb202, 1, none⟩ = some (.int .i64 t206) := (blk_cell BK202.out 1).trans rfl; have hcz74_2 : w73.cell? ⟨gb202, 2, none⟩ = some (.int .i64 x203002_30) := (blk_cell BK202.out 2).trans rfl; have hcz74_3 : w73.cell? ⟨gb202, 3, none⟩ = some (.slice Ao43 t218.length co43) := (blk_cell BK202.out 3).trans rfl; have hfz74_0 := blk_frozen BK202.out 0; have hfz74_1 := blk_frozen BK202.out 1; have hfz74_2 := blk_frozen BK202.out 2; have hfz74_3 := blk_frozen BK202.out 3))
          (try simp only [Act.put, List.setIfInBounds_toArray, List.set_cons_zero, List.set_cons_succ])
          have H := HC68.out
          clear HC68
          simp only [Option.some.injEq, Prod.mk.injEq] at H
          obtain ⟨rfl, rfl, rfl, rfl, rfl⟩ := H
          have hnb75 := NB202_200.out
          have hnc75 := NB200_202.out
          have hnb76 := NB202_201.out
          have hnc76 := NB201_202.out
          have hcz77_0 : w73.cell? ⟨gb202, 0, none⟩ = some (.int .i64 t203) := (blk_cell BK202.out 0).trans rfl
          have hcz77_1 : w73.cell? ⟨gb202, 1, none⟩ = some (.int .i64 t206) := (blk_cell BK202.out 1).trans rfl
          have hcz77_2 : w73.cell? ⟨gb202, 2, none⟩ = some (.int .i64 x203002_30) := (blk_cell BK202.out 2).trans rfl
          have hcz77_3 : w73.cell? ⟨gb202, 3, none⟩ = some (.slice Ao43 t218.length co43) := (blk_cell BK202.out 3).trans rfl
          have hfz77_0 := blk_frozen BK202.out 0
          have hfz77_1 := blk_frozen BK202.out 1
          have hfz77_2 := blk_frozen BK202.out 2
          have hfz77_3 := blk_frozen BK202.out 3
          have hnb78 := NB200_201.out
          have hnc78 := NB201_200.out
          have hcz79_0 : w73.cell? ⟨gb200, 0, none⟩ = some (.int .i64 0) := (blk_cell BK200.out 0).trans rfl
          have hcz79_1 : w73.cell? ⟨gb200, 1, none⟩ = some (.int .i64 0) := (blk_cell BK200.out 1).trans rfl
          have hcz79_2 : w73.cell? ⟨gb200, 2, none⟩ = some (.int .i64 0) := (blk_cell BK200.out 2).trans rfl
          have hcz79_3 : w73.cell? ⟨gb200, 3, none⟩ = some (.slice none 0 0) := (blk_cell BK200.out 3).trans rfl
          have hfz79_0 := blk_frozen BK200.out 0
          have hfz79_1 := blk_frozen BK200.out 1
          have hfz79_2 := blk_frozen BK200.out 2
          have hfz79_3 := blk_frozen BK200.out 3
          go_wp2
          refine bodyPost_ret (results_ct rfl _ _ gb200 54 #[.int .i64 t203, .int .i64 t206, .int .i64 x203002_30, .slice Ao43 t218.length co43] (0, 0) _ rfl zq81 Try.underlying54 rfl (by kernel_rfl)) rfl ?_
          exact ⟨_, zq5, zq129, zq14⟩
        ·replace c56 := Bool.eq_false_iff.mpr c56
         subst c56
         rw [if_neg zF] at H
         have HC80 := zA H
         clear H
         obtain ⟨ASz81_0, cSz81_0, HGz81, hgz81, ⟨HSz81_0, HSKz81_0⟩⟩ := HI201.out
         have HSCz81_0 := zA HSKz81_0
         clear HSKz81_0
         have hcz81_0 := cellS135_0 HGz81
         have hcz81_1 := cellS135_1 HGz81
         have hcz81_2 := cellS135_2 HGz81
         have hfz81_1 := blk_frozen HGz81 1
         have hfz81_2 := blk_frozen HGz81 2
         clear HGz81 hgz81
         have hnb82 := NB202_200.out
         have hnc82 := NB200_202.out
         have hnb83 := NB202_201.out
         have hnc83 := NB201_202.out
         have hcz84_0 : w42.cell? ⟨gb202, 0, none⟩ = some (.int .i64 t203) := (blk_cell BK202.out 0).trans rfl
         have hcz84_1 : w42.cell? ⟨gb202, 1, none⟩ = some (.int .i64 t206) := (blk_cell BK202.out 1).trans rfl
         have hcz84_2 : w42.cell? ⟨gb202, 2, none⟩ = some (.int .i64 x203002_30) := (blk_cell BK202.out 2).trans rfl
         have hcz84_3 : w42.cell? ⟨gb202, 3, none⟩ = some (.slice none 0 0) := (blk_cell BK202.out 3).trans rfl
         have hfz84_0 := blk_frozen BK202.out 0
         have hfz84_1 := blk_frozen BK202.out 1
         have hfz84_2 := blk_frozen BK202.out 2
         have hfz84_3 := blk_frozen BK202.out 3
         go_upto_region 12 with (first | (go_at_call 80; (with_reducible refine (spec_FrameOk.calls t203 t206 x203002_30 _ _ t218 true _ ?side1 ?side2 A54.out).mono ?_); (case side1 => refine (Kd.R_reads' (e := 5) (base := w.heap.size) (ok := fun k_ => True) (n := t218.length) (c := co43) ?_).2.2; exact zq46); (case side2 => exact (Kd.R_reads' HO220.out).2.1); rintro e w85 ⟨rfl, hb⟩; replace HO220 := zA (Kd.R_below zq46 hb); replace BK200 := zA (blk_below (g := gb200) (o := .cells #[.int .i64 0, .int .i64 0, .int .i64 0, .slice none 0 0] 54 (0, 0)) zq54 hb); replace BK202 := zA (blk_below (g := gb202) (o := .cells #[.int .i64 t203, .int .i64 t206, .int .i64 x203002_30, .slice Ao43 t218.length co43] 54 (0, 0)) zq75 hb); replace HB := zA (below_step zq14 hb); replace HI201 := zA (IsS135.below (show IsS135 w (w42.setCell ⟨gb202, 3, none⟩ (.slice Ao43 t218.length co43)) g201 l0 t221 false from by repeat (first | (with_reducible first | exact HI201.out | apply IsS135.alloc | apply IsS135.drewN | apply IsS135.drew | apply IsS135.set_1 | apply IsS135.set_2 | refine IsS135.far ?_ NB201_200.out _ | refine IsS135.far ?_ NB201_202.out _) | exact HI201.out)) hb); clear hb))
         (try simp only [Act.put, List.setIfInBounds_toArray, List.set_cons_zero, List.set_cons_succ])
         have H := HC80.out
         clear HC80
         simp only [Option.some.injEq, Prod.mk.injEq] at H
         obtain ⟨rfl, rfl, rfl, rfl, rfl⟩ := H
         have hnb86 := NB202_200.out
         have hnc86 := NB200_202.out
         have hnb87 := NB202_201.out
         have hnc87 := NB201_202.out
         have hcz88_0 : w85.cell? ⟨gb202, 0, none⟩ = some (.int .i64 t203) := (blk_cell BK202.out 0).trans rfl
         have hcz88_1 : w85.cell? ⟨gb202, 1, none⟩ = some (.int .i64 t206) := (blk_cell BK202.out 1).trans rfl
         have hcz88_2 : w85.cell? ⟨gb202, 2, none⟩ = some (.int .i64 x203002_30) := (blk_cell BK202.out 2).trans rfl
         have hcz88_3 : w85.cell? ⟨gb202, 3, none⟩ = some (.slice Ao43 t218.length co43) := (blk_cell BK202.out 3).trans rfl
         have hfz88_0 := blk_frozen BK202.out 0
         have hfz88_1 := blk_frozen BK202.out 1
         have hfz88_2 := blk_frozen BK202.out 2
         have hfz88_3 := blk_frozen BK202.out 3
         have hnb89 := NB200_201.out
         have hnc89 := NB201_200.out
         have hcz90_0 : w85.cell? ⟨gb200, 0, none⟩ = some (.int .i64 0) := (blk_cell BK200.out 0).trans rfl
         have hcz90_1 : w85.cell? ⟨gb200, 1, none⟩ = some (.int .i64 0) := (blk_cell BK200.out 1).trans rfl
         have hcz90_2 : w85.cell? ⟨gb200, 2, none⟩ = some (.int .i64 0) := (blk_cell BK200.out 2).trans rfl
         have hcz90_3 : w85.cell? ⟨gb200, 3, none⟩ = some (.slice none 0 0) := (blk_cell BK200.out 3).trans rfl
         have hfz90_0 := blk_frozen BK200.out 0
         have hfz90_1 := blk_frozen BK200.out 1
         have hfz90_2 := blk_frozen BK200.out 2
         have hfz90_3 := blk_frozen BK200.out 3
         go_wp2
         refine bodyPost_ret (results_ct rfl _ _ gb200 54 #[.int .i64 t203, .int .i64 t206, .int .i64 x203002_30, .slice Ao43 t218.length co43] (0, 0) _ rfl zq81 Try.underlying54 rfl (by kernel_rfl)) rfl ?_
         exact ⟨_, zq5, zq129, zq14⟩
       ·replace c55 := Bool.eq_false_iff.mpr c55
        subst c55
        rw [if_neg zF] at H
        have HC91 := zA H
        clear H
        obtain ⟨ASz92_0, cSz92_0, HGz92, hgz92, ⟨HSz92_0, HSKz92_0⟩⟩ := HI201.out
        have HSCz92_0 := zA HSKz92_0
        clear HSKz92_0
        have hcz92_0 := cellS135_0 HGz92
        have hcz92_1 := cellS135_1 HGz92
        have hcz92_2 := cellS135_2 HGz92
        have hfz92_1 := blk_frozen HGz92 1
        have hfz92_2 := blk_frozen HGz92 2
        clear HGz92 hgz92
        have hnb93 := NB202_200.out
        have hnc93 := NB200_202.out
        have hnb94 := NB202_201.out
        have hnc94 := NB201_202.out
        have hcz95_0 : w42.cell? ⟨gb202, 0, none⟩ = some (.int .i64 t203) := (blk_cell BK202.out 0).trans rfl
        have hcz95_1 : w42.cell? ⟨gb202, 1, none⟩ = some (.int .i64 t206) := (blk_cell BK202.out 1).trans rfl
        have hcz95_2 : w42.cell? ⟨gb202, 2, none⟩ = some (.int .i64 x203002_30) := (blk_cell BK202.out 2).trans rfl
        have hcz95_3 : w42.cell? ⟨gb202, 3, none⟩ = some (.slice none 0 0) := (blk_cell BK202.out 3).trans rfl
        have hfz95_0 := blk_frozen BK202.out 0
        have hfz95_1 := blk_frozen BK202.out 1
        have hfz95_2 := blk_frozen BK202.out 2
        have hfz95_3 := blk_frozen BK202.out 3
        go_upto_region 11 with (first | (go_at_call 80; (with_reducible refine (spec_FrameOk.calls t203 t206 x203002_30 _ _ t218 false _ ?side1 ?side2 A54.out).mono ?_); (case side1 => refine (Kd.R_reads' (e := 5) (base := w.heap.size) (ok := fun k_ => True) (n := t218.length) (c := co43) ?_).2.2; exact zq46); (case side2 => exact (Kd.R_reads' HO220.out).2.1); rintro e w96 ⟨rfl, hb⟩; replace HO220 := zA (Kd.R_below zq46 hb); replace BK200 := zA (blk_below (g := gb200) (o := .cells #[.int .i64 0, .int .i64 0, .int .i64 0, .slice none 0 0] 54 (0, 0)) zq54 hb); replace BK202 := zA (blk_below (g := gb202) (o := .cells #[.int .i64 t203, .int .i64 t206, .int .i64 x203002_30, .slice Ao43 t218.length co43] 54 (0, 0)) zq75 hb); replace HB := zA (below_step zq14 hb); replace HI201 := zA (IsS135.below (show IsS135 w (w42.setCell ⟨gb202, 3, none⟩ (.slice Ao43 t218.length co43)) g201 l0 t221 false from by repeat (first | (with_reducible first | exact HI201.out | apply IsS135.alloc | apply IsS135.drewN | apply IsS135.drew | apply IsS135.set_1 | apply IsS135.set_2 | refine IsS135.far ?_ NB201_200.out _ | refine IsS135.far ?_ NB201_202.out _) | exact HI201.out)) hb); clear hb))
        (try simp only [Act.put, List.setIfInBounds_toArray, List.set_cons_zero, List.set_cons_succ])
        have H := HC91.out
        clear HC91
        simp only [Option.some.injEq, Prod.mk.injEq] at H
        obtain ⟨rfl, rfl, rfl, rfl, rfl⟩ := H
        have hnb97 := NB200_202.out
        have hnc97 := NB202_200.out
        have hnb98 := NB200_201.out
        have hnc98 := NB201_200.out
        have hcz99_0 : w96.cell? ⟨gb200, 0, none⟩ = some (.int .i64 0) := (blk_cell BK200.out 0).trans rfl
        have hcz99_1 : w96.cell? ⟨gb200, 1, none⟩ = some (.int .i64 0) := (blk_cell BK200.out 1).trans rfl
        have hcz99_2 : w96.cell? ⟨gb200, 2, none⟩ = some (.int .i64 0) := (blk_cell BK200.out 2).trans rfl
        have hcz99_3 : w96.cell? ⟨gb200, 3, none⟩ = some (.slice none 0 0) := (blk_cell BK200.out 3).trans rfl
        have hfz99_0 := blk_frozen BK200.out 0
        have hfz99_1 := blk_frozen BK200.out 1
        have hfz99_2 := blk_frozen BK200.out 2
        have hfz99_3 := blk_frozen BK200.out 3
        go_wp2
        refine bodyPost_ret (results_ct rfl _ _ gb200 54 #[.int .i64 0, .int .i64 0, .int .i64 0, .slice none 0 0] (0, 0) _ rfl zq82 Try.underlying54 rfl (by kernel_rfl)) rfl ?_
        exact ⟨_, zq5, zq20, zq14⟩
      ·rw [if_neg c53] at H
       have c53b0 : (t221 == (l0.length : Int)) = false := beq_eq_false_iff_ne.mpr c53
       have c53b1 : (t221 != (l0.length : Int)) = true := bne_iff_ne.mpr c53
       have HC100 := zA H
       clear H
       obtain ⟨ASz101_0, cSz101_0, HGz101, hgz101, ⟨HSz101_0, HSKz101_0⟩⟩ := HI201.out
       have HSCz101_0 := zA HSKz101_0
       clear HSKz101_0
       have hcz101_0 := cellS135_0 HGz101
       have hcz101_1 := cellS135_1 HGz101
       have hcz101_2 := cellS135_2 HGz101
       have hfz101_1 := blk_frozen HGz101 1
       have hfz101_2 := blk_frozen HGz101 2
       clear HGz101 hgz101
       go_upto_region 11 with (fail)
       have H := HC100.out
       clear HC100
       simp only [Option.some.injEq, Prod.mk.injEq] at H
       obtain ⟨rfl, rfl, rfl, rfl, rfl⟩ := H
       have hnb102 := NB200_202.out
       have hnc102 := NB202_200.out
       have hnb103 := NB200_201.out
       have hnc103 := NB201_200.out
       have hcz104_0 : w42.cell? ⟨gb200, 0, none⟩ = some (.int .i64 0) := (blk_cell BK200.out 0).trans rfl
       have hcz104_1 : w42.cell? ⟨gb200, 1, none⟩ = some (.int .i64 0) := (blk_cell BK200.out 1).trans rfl
       have hcz104_2 : w42.cell? ⟨gb200, 2, none⟩ = some (.int .i64 0) := (blk_cell BK200.out 2).trans rfl
       have hcz104_3 : w42.cell? ⟨gb200, 3, none⟩ = some (.slice none 0 0) := (blk_cell BK200.out 3).trans rfl
       have hfz104_0 := blk_frozen BK200.out 0
       have hfz104_1 := blk_frozen BK200.out 1
       have hfz104_2 := blk_frozen BK200.out 2
       have hfz104_3 := blk_frozen BK200.out 3
       go_wp2
       refine bodyPost_ret (results_ct rfl _ _ gb200 54 #[.int .i64 0, .int .i64 0, .int .i64 0, .slice none 0 0] (0, 0) _ rfl zq73 Try.underlying54 rfl (by kernel_rfl)) rfl ?_
       exact ⟨_, zq5, zq20, zq14⟩

/-! ### impl_in: function 122 -/
def impl_in.f (a0 : Int) (a1 : Int) (a2 : Int) : Option (Bool) := if a0 ≥ a1 then (some (decide (a0 ≤ a2))) else (some false)
set_option maxHeartbeats 8000000 in
set_option maxRecDepth 100000 in
theorem impl_in.calls (a0 : Int) (a1 : Int) (a2 : Int) (r : Bool) (w : World) (h : impl_in.f a0 a1 a2 = some r) :
  Calls Try.prog 122 #[.int .i64 a0, .int .i64 a1, .int .i64 a2] w fun e w' => e = .returned (.bool r) ∧ Drawn0 w w' := by
 unfold impl_in.f at h
 have H := h
 clear h
 have HC4 := zA H
 clear H
 go_enter Try.func122, Try.ntmps122
 go_upto_region 0 with (fail)
 have H := HC4.out
 clear HC4
 have HC5 := zA H
 clear H
 go_upto_region 1 with (fail)
 have H := HC5.out
 clear HC5
 by_cases c6 : a0 ≥ a1
 ·rw [if_pos c6] at H
  have c6b0 : decide (a1 ≤ a0) = true := decide_eq_true c6
  clear c6
  obtain rfl := Option.some.inj H
  go_wp2
  go_ret
  exact ⟨zq25, zq102⟩
 ·rw [if_neg c6] at H
  have c6b0 : decide (a1 ≤ a0) = false := decide_eq_false c6
  clear c6
  obtain rfl := Option.some.inj H
  go_wp2
  go_ret
  exact ⟨zq25, zq102⟩

/-! ### impl_FrameOk: function 79 -/
def impl_FrameOk.f (a0_0 : Int) (a0_1 : Int) (a0_2 : Int) (l0_3 : List Int) : Option (Bool) := (impl_in.f a0_0 0 9999).bind fun t225 => (if t225 = true then ((impl_in.f a0_1 1 9999).bind fun t226 => (if t226 = true then ((impl_in.f a0_2 0 99).bind fun t227 => (if t227 = true then (some (decide ((l0_3.length : Int) ≤ 20))) else (some false))) else (some false))) else (some false))
set_option maxHeartbeats 8000000 in
set_option maxRecDepth 100000 in
theorem impl_FrameOk.calls (a0_0 : Int) (a0_1 : Int) (a0_2 : Int) (A0_3 : Option Addr) (c0_3 : Nat) (l0_3 : List Int) (r : Bool) (w : World) (hr0_3 : Kd.C (Kd.int .u8) w A0_3 l0_3.length l0_3) (hc0_3 : l0_3.length ≤ c0_3) (h : impl_FrameOk.f a0_0 a0_1 a0_2 l0_3 = some r) :
  Calls Try.prog 79 #[.agg #[.int .i64 a0_0, .int .i64 a0_1, .int .i64 a0_2, .slice A0_3 l0_3.length c0_3]] w fun e w' => e = .returned (.bool r) ∧ Below w.heap.size w w' := by
 have hu54 := Try.underlying54
 have HR0_3 := zA hr0_3
 have HC0_3 := zA hc0_3
 clear hr0_3 hc0_3
 have HB := zA (Below.refl w.heap.size w)
 unfold impl_FrameOk.f at h
 have H := h
 clear h
 have HC2 := zA H
 clear H
 go_enter Try.func79, Try.ntmps79
 go_upto_region 0 with (fail)
 have H := HC2.out
 clear HC2
 have HC3 := zA H
 clear H
 go_upto_region 1 with (first | ((with_reducible refine gate_dst (N := 1) rfl ?_); (try (refine gate_guard zq110 ?_; dsimp only)); refine box_event ?hg (N := 1) ?hd (cs := #[.int .i64 a0_0, .int .i64 a0_1, .int .i64 a0_2, .slice A0_3 l0_3.length c0_3]) (t := 54) ?hr ?_; (case hd => rfl); (case hg => rfl); (case hr => first | (go_simp; done) | (go_simp; rfl)); intro gb224 hg w4 hbox hb; have BK224 := zA (hbox); have GW224 := zA ((zq18 : w.heap.size ≤ gb224)); have GE224 := zA ((zq18 : w.heap.size ≤ gb224)); replace HB := zA (below_step zq0 hb); clear hb hbox hg))
 (try simp only [Act.put, List.setIfInBounds_toArray, List.set_cons_zero, List.set_cons_succ])
 have H := HC3.out
 clear HC3
 obtain ⟨t225, A5, H⟩ := zB H
 try dsimp only at H
 by_cases c6 : t225 = true
 ·subst c6
  rw [if_pos rfl] at H
  obtain ⟨t226, A7, H⟩ := zB H
  try dsimp only at H
  by_cases c8 : t226 = true
  ·subst c8
   rw [if_pos rfl] at H
   obtain ⟨t227, A9, H⟩ := zB H
   try dsimp only at H
   by_cases c10 : t227 = true
   ·subst c10
    rw [if_pos rfl] at H
    obtain rfl := Option.some.inj H
    have hcz11_0 : w4.cell? ⟨gb224, 0, none⟩ = some (.int .i64 a0_0) := (blk_cell BK224.out 0).trans rfl
    have hcz11_1 : w4.cell? ⟨gb224, 1, none⟩ = some (.int .i64 a0_1) := (blk_cell BK224.out 1).trans rfl
    have hcz11_2 : w4.cell? ⟨gb224, 2, none⟩ = some (.int .i64 a0_2) := (blk_cell BK224.out 2).trans rfl
    have hcz11_3 : w4.cell? ⟨gb224, 3, none⟩ = some (.slice A0_3 l0_3.length c0_3) := (blk_cell BK224.out 3).trans rfl
    have hfz11_0 := blk_frozen BK224.out 0
    have hfz11_1 := blk_frozen BK224.out 1
    have hfz11_2 := blk_frozen BK224.out 2
    have hfz11_3 := blk_frozen BK224.out 3
    go_wp2_with (first | ((with_reducible refine gate_callee (f := 122) rfl ?_); refine goesL_ (some 5) rfl rfl Try.func122 (by kernel_rfl) rfl #[.int .i64 a0_0, .int .i64 0, .int .i64 9999] rfl zq1 ?_; (with_reducible refine (impl_in.calls a0_0 0 9999 true _ A5.out).mono ?_); rintro e w' ⟨rfl, ⟨nd, rfl⟩⟩; refine ⟨_, rfl, ?_⟩) | (go_at_call 122; (with_reducible refine (impl_in.calls a0_1 1 9999 true _ A7.out).mono ?_); rintro e w' ⟨rfl, ⟨nd, rfl⟩⟩) | (go_at_call 122; (with_reducible refine (impl_in.calls a0_2 0 99 true _ A9.out).mono ?_); rintro e w' ⟨rfl, ⟨nd, rfl⟩⟩))
    go_ret
    exact ⟨zq5, zq128⟩
   ·replace c10 := Bool.eq_false_iff.mpr c10
    subst c10
    rw [if_neg zF] at H
    obtain rfl := Option.some.inj H
    have hcz12_0 : w4.cell? ⟨gb224, 0, none⟩ = some (.int .i64 a0_0) := (blk_cell BK224.out 0).trans rfl
    have hcz12_1 : w4.cell? ⟨gb224, 1, none⟩ = some (.int .i64 a0_1) := (blk_cell BK224.out 1).trans rfl
    have hcz12_2 : w4.cell? ⟨gb224, 2, none⟩ = some (.int .i64 a0_2) := (blk_cell BK224.out 2).trans rfl
    have hcz12_3 : w4.cell? ⟨gb224, 3, none⟩ = some (.slice A0_3 l0_3.length c0_3) := (blk_cell BK224.out 3).trans rfl
    have hfz12_0 := blk_frozen BK224.out 0
    have hfz12_1 := blk_frozen BK224.out 1
    have hfz12_2 := blk_frozen BK224.out 2
    have hfz12_3 := blk_frozen BK224.out 3
    go_wp2_with (first | ((with_reducible refine gate_callee (f := 122) rfl ?_); refine goesL_ (some 5) rfl rfl Try.func122 (by kernel_rfl) rfl #[.int .i64 a0_0, .int .i64 0, .int .i64 9999] rfl zq1 ?_; (with_reducible refine (impl_in.calls a0_0 0 9999 true _ A5.out).mono ?_); rintro e w' ⟨rfl, ⟨nd, rfl⟩⟩; refine ⟨_, rfl, ?_⟩) | (go_at_call 122; (with_reducible refine (impl_in.calls a0_1 1 9999 true _ A7.out).mono ?_); rintro e w' ⟨rfl, ⟨nd, rfl⟩⟩) | (go_at_call 122; (with_reducible refine (impl_in.calls a0_2 0 99 false _ A9.out).mono ?_); rintro e w' ⟨rfl, ⟨nd, rfl⟩⟩))
    go_ret
    exact ⟨zq5, zq128⟩
  ·replace c8 := Bool.eq_false_iff.mpr c8
   subst c8
   rw [if_neg zF] at H
   obtain rfl := Option.some.inj H
   have hcz13_0 : w4.cell? ⟨gb224, 0, none⟩ = some (.int .i64 a0_0) := (blk_cell BK224.out 0).trans rfl
   have hcz13_1 : w4.cell? ⟨gb224, 1, none⟩ = some (.int .i64 a0_1) := (blk_cell BK224.out 1).trans rfl
   have hcz13_2 : w4.cell? ⟨gb224, 2, none⟩ = some (.int .i64 a0_2) := (blk_cell BK224.out 2).trans rfl
   have hcz13_3 : w4.cell? ⟨gb224, 3, none⟩ = some (.slice A0_3 l0_3.length c0_3) := (blk_cell BK224.out 3).trans rfl
   have hfz13_0 := blk_frozen BK224.out 0
   have hfz13_1 := blk_frozen BK224.out 1
   have hfz13_2 := blk_frozen BK224.out 2
   have hfz13_3 := blk_frozen BK224.out 3
   go_wp2_with (first | ((with_reducible refine gate_callee (f := 122) rfl ?_); refine goesL_ (some 5) rfl rfl Try.func122 (by kernel_rfl) rfl #[.int .i64 a0_0, .int .i64 0, .int .i64 9999] rfl zq1 ?_; (with_reducible refine (impl_in.calls a0_0 0 9999 true _ A5.out).mono ?_); rintro e w' ⟨rfl, ⟨nd, rfl⟩⟩; refine ⟨_, rfl, ?_⟩) | (go_at_call 122; (with_reducible refine (impl_in.calls a0_1 1 9999 false _ A7.out).mono ?_); rintro e w' ⟨rfl, ⟨nd, rfl⟩⟩))
   go_ret
   exact ⟨zq5, zq128⟩
 ·replace c6 := Bool.eq_false_iff.mpr c6
  subst c6
  rw [if_neg zF] at H
  obtain rfl := Option.some.inj H
  have hcz14_0 : w4.cell? ⟨gb224, 0, none⟩ = some (.int .i64 a0_0) := (blk_cell BK224.out 0).trans rfl
  have hcz14_1 : w4.cell? ⟨gb224, 1, none⟩ = some (.int .i64 a0_1) := (blk_cell BK224.out 1).trans rfl
  have hcz14_2 : w4.cell? ⟨gb224, 2, none⟩ = some (.int .i64 a0_2) := (blk_cell BK224.out 2).trans rfl
  have hcz14_3 : w4.cell? ⟨gb224, 3, none⟩ = some (.slice A0_3 l0_3.length c0_3) := (blk_cell BK224.out 3).trans rfl
  have hfz14_0 := blk_frozen BK224.out 0
  have hfz14_1 := blk_frozen BK224.out 1
  have hfz14_2 := blk_frozen BK224.out 2
  have hfz14_3 := blk_frozen BK224.out 3
  go_wp2_with (first | ((with_reducible refine gate_callee (f := 122) rfl ?_); refine goesL_ (some 5) rfl rfl Try.func122 (by kernel_rfl) rfl #[.int .i64 a0_0, .int .i64 0, .int .i64 9999] rfl zq1 ?_; (with_reducible refine (impl_in.calls a0_0 0 9999 false _ A5.out).mono ?_); rintro e w' ⟨rfl, ⟨nd, rfl⟩⟩; refine ⟨_, rfl, ?_⟩))
  go_ret
  exact ⟨zq5, zq128⟩

end Go.Proofs.Ytkcgghgkmgbphaa.PFnFrames
