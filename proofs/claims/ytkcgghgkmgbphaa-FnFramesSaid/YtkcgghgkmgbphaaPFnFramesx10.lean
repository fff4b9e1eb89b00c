-- WRITTEN BY a turned copy of the kit's printer (wip/patch_print.py), for this claim
import Derived.Test.YtkcgghgkmgbphaaPFnFramesx0
import Derived.Test.YtkcgghgkmgbphaaPFnFramesx7
import Derived.Test.YtkcgghgkmgbphaaPFnFramesx9
namespace Go.Proofs.Ytkcgghgkmgbphaa.PFnFrames
open Go.RowKit Go.Proofs.YtkcgghgkmgbphaaW.PrintWords Go.Proofs.YtkcgghgkmgbphaaW.PrintLast Go.Proofs.YtkcgghgkmgbphaaW.PrintMore
attribute [local go_sem] max2_int min2_int max_two min_two max_three min_three max_four min_four   -- for this text's walks alone
set_option linter.unusedVariables false
set_option linter.unusedSimpArgs false

attribute [local go_sem] cell_setCell_m
/-! ### impl_GetFrame: function 44 -/
mutual
def impl_GetFrame.j0 : Nat → List Int → Bool → List Int → Int → Bool → Int → Int → Int → Option (Int × Int × Int × List Int × Bool)
 | 0, _, _, _, _, _, _, _, _ => none
 | k + 1, x0, x39, x322000, x322001, x322002, x323000, x323001, x323002 => if x39 = true then ((impl_parts_num.f k x322000 x322001 x322002 2).bind fun bt330 => (impl_GetFrame.j1 k x0 x322000 bt330.2.1 bt330.2.2 x323000 x323001 bt330.1)) else (impl_GetFrame.j1 k x0 x322000 x322001 x322002 x323000 x323001 x323002)
def impl_GetFrame.j1 : Nat → List Int → List Int → Int → Bool → Int → Int → Int → Option (Int × Int × Int × List Int × Bool)
 | 0, _, _, _, _, _, _, _ => none
 | k + 1, x0, x322000, x322001, x322002, x323000, x323001, x323002 => (impl_parts_part.f x322000 x322001 x322002 3).bind fun bt333 => ((impl_PutFrame.f k x323000 x323001 x323002 bt333.1).bind fun t338 => ((impl_parts_done.f x322000 bt333.2.1 bt333.2.2).bind fun bt341 => (if bt341.1 = true then (if (t338.length : Int) = 0 then (some (0, 0, 0, ([] : List Int), false)) else (if (strOfNums t338).toList = (strOfNums x0).toList then (some (x323000, x323001, x323002, bt333.1, true)) else (some (0, 0, 0, ([] : List Int), false)))) else (some (0, 0, 0, ([] : List Int), false)))))
end
def impl_GetFrame.f (k : Nat) (l0 : List Int) : Option (Int × Int × Int × List Int × Bool) := (impl_parts_num.f k l0 0 false 1).bind fun bt323 => ((impl_parts_num.f k l0 bt323.2.1 bt323.2.2 1).bind fun bt326 => (if bt326.2.2 = true then (impl_GetFrame.j0 k l0 false l0 bt326.2.1 bt326.2.2 bt323.1 bt326.1 0) else (if bt326.2.1 < (l0.length : Int) then (if 0 ≤ bt326.2.1 then (impl_GetFrame.j0 k l0 ((rd l0 bt326.2.1) == 2) l0 bt326.2.1 bt326.2.2 bt323.1 bt326.1 0) else (none)) else (impl_GetFrame.j0 k l0 false l0 bt326.2.1 bt326.2.2 bt323.1 bt326.1 0))))
theorem impl_GetFrame.mono_l : ∀ k, (∀ y0 y1 y2 y3 y4 y5 y6 y7, LeO (impl_GetFrame.j0 k y0 y1 y2 y3 y4 y5 y6 y7) (impl_GetFrame.j0 (k + 1) y0 y1 y2 y3 y4 y5 y6 y7)) ∧ (∀ y0 y1 y2 y3 y4 y5 y6, LeO (impl_GetFrame.j1 k y0 y1 y2 y3 y4 y5 y6) (impl_GetFrame.j1 (k + 1) y0 y1 y2 y3 y4 y5 y6))
 | 0 => ⟨fun _ _ _ _ _ _ _ _ r h => by simp [impl_GetFrame.j0] at h, fun _ _ _ _ _ _ _ r h => by simp [impl_GetFrame.j1] at h⟩
 | k + 1 => by
  obtain ⟨ih0, ih1⟩ := impl_GetFrame.mono_l k
  refine ⟨?_, ?_⟩
  ·intro y0 y1 y2 y3 y4 y5 y6 y7
   unfold impl_GetFrame.j0
   have m0_ := @impl_PutFrame.mono
   have m1_ := @impl_parts_num.mono
   exact zR
  ·intro y0 y1 y2 y3 y4 y5 y6
   unfold impl_GetFrame.j1
   have m0_ := @impl_PutFrame.mono
   have m1_ := @impl_parts_num.mono
   exact zR
theorem impl_GetFrame.mono : ∀ a0 k, LeO (impl_GetFrame.f k a0) (impl_GetFrame.f (k + 1) a0) := by
 intro a0 k
 obtain ⟨ih0, ih1⟩ := impl_GetFrame.mono_l k
 unfold impl_GetFrame.f
 have m0_ := @impl_PutFrame.mono
 have m1_ := @impl_parts_num.mono
 exact zR
set_option maxHeartbeats 8000000 in
set_option maxRecDepth 100000 in
theorem impl_GetFrame.calls (k : Nat) (A0 : Option Addr) (c0 : Nat) (l0 : List Int) (r1 : Int) (r2 : Int) (r3 : Int) (r4 : List Int) (r5 : Bool) (w : World) (hr0 : Kd.C (Kd.int .u8) w A0 l0.length l0) (hc0 : l0.length ≤ c0) (h : impl_GetFrame.f k l0 = some (r1, r2, r3, r4, r5)) :
  Calls Try.prog 44 #[.slice A0 l0.length c0] w fun e w' => ∃ v3_ : Value, e = .returned (.tuple #[.agg #[.int .i64 r1, .int .i64 r2, .int .i64 r3, v3_], .bool r5]) ∧ Kd.R (Kd.int .u8) 5 w' w.heap.size (fun _ => True) v3_ r4 ∧ Below w.heap.size w w' := by
 have hu54 := Try.underlying54
 have hu127 := Try.underlying127
 have HR0 := zA hr0
 have HC0 := zA hc0
 clear hr0 hc0
 have HB := zA (Below.refl w.heap.size w)
 unfold impl_GetFrame.f at h
 have H := h
 clear h
 have HC2 := zA H
 clear H
 go_enter Try.func44, Try.ntmps44
 go_upto_region 0 with (fail)
 have H := HC2.out
 clear HC2
 have HC3 := zA H
 clear H
 go_upto_region 1 with (first | ((with_reducible refine gate_dst (N := 2) rfl ?_); (try (refine gate_guard zq110 ?_; dsimp only)); refine box_event ?hg (N := 2) ?hd (cs := #[.int .i64 0, .int .i64 0, .int .i64 0, .slice none 0 0]) (t := 54) ?hr ?_; (case hd => rfl); (case hg => rfl); (case hr => first | (go_simp; done) | (go_simp; rfl)); intro gb320 hg w4 hbox hb; have BK320 := zA (hbox); have GW320 := zA ((zq18 : w.heap.size ≤ gb320)); have GE320 := zA ((zq18 : w.heap.size ≤ gb320)); replace HB := zA (below_step zq0 hb); clear hb hbox hg))
 (try simp only [Act.put, List.setIfInBounds_toArray, List.set_cons_zero, List.set_cons_succ])
 have H := HC3.out
 clear HC3
 have HC5 := zA H
 clear H
 go_upto_region 2 with (first | ((with_reducible refine gate_dst (N := 9) rfl ?_); (try (refine gate_guard zq110 ?_; dsimp only)); refine box_event ?hg (N := 9) ?hd (cs := #[.slice A0 l0.length c0, .int .i64 0, .bool false]) (t := 127) ?hr ?_; (case hd => rfl); (case hg => rfl); (case hr => first | (go_simp; done) | (go_simp; rfl)); intro g321 hg w6 hbox hb2; have hi : IsS127 w w6 g321 l0 0 false := ⟨_, _, hbox, (by rw [hg]; exact (below_size zq189)), ⟨HR0.out, HC0.out⟩⟩; have hb := below_step zq189 hb2; replace HB := zA (hb); have HI321 := zA (hi); have NB321_320 := zA (IsS127.ne_blk hi (blk_below (g := gb320) (o := .cells #[.int .i64 0, .int .i64 0, .int .i64 0, .slice none 0 0] 54 (0, 0)) zq53 hb2) zq40); have NB320_321 := zA (Ne.symm (IsS127.ne_blk hi (blk_below (g := gb320) (o := .cells #[.int .i64 0, .int .i64 0, .int .i64 0, .slice none 0 0] 54 (0, 0)) zq53 hb2) zq40)); replace BK320 := zA (blk_below (g := gb320) (o := .cells #[.int .i64 0, .int .i64 0, .int .i64 0, .slice none 0 0] 54 (0, 0)) zq53 hb2); clear hb hb2 hbox hg hi))
 (try simp only [Act.put, List.setIfInBounds_toArray, List.set_cons_zero, List.set_cons_succ])
 have H := HC5.out
 clear HC5
 have HC7 := zA H
 clear H
 go_upto_region 3 with (first | ((with_reducible refine gate_dst (N := 5) rfl ?_); (try (refine gate_guard zq110 ?_; dsimp only)); refine box_event ?hg (N := 5) ?hd (cs := #[.int .i64 0, .int .i64 0, .int .i64 0, .slice none 0 0]) (t := 54) ?hr ?_; (case hd => rfl); (case hg => rfl); (case hr => first | (go_simp; done) | (go_simp; rfl)); intro gb322 hg w8 hbox hb; have BK322 := zA (hbox); have GW322 := zA ((zq176 : w.heap.size ≤ gb322)); have GE322 := zA ((zq176 : w.heap.size ≤ gb322)); replace HB := zA (below_step zq148 hb); have NB320_322 := zA ((by rw [hg]; exact Nat.ne_of_lt (blk_lt (g := gb320) (o := .cells #[.int .i64 0, .int .i64 0, .int .i64 0, .slice none 0 0] 54 (0, 0)) zq53) : gb320 ≠ gb322)); have NB322_320 := zA ((by rw [hg]; exact Nat.ne_of_gt (blk_lt (g := gb320) (o := .cells #[.int .i64 0, .int .i64 0, .int .i64 0, .slice none 0 0] 54 (0, 0)) zq53) : gb322 ≠ gb320)); replace BK320 := zA (blk_below (g := gb320) (o := .cells #[.int .i64 0, .int .i64 0, .int .i64 0, .slice none 0 0] 54 (0, 0)) zq53 hb); have NB321_322 := zA ((by rw [hg]; exact Nat.ne_of_lt (IsS127.lt (show IsS127 w _ g321 l0 0 false from by repeat (first | (with_reducible first | exact HI321.out | apply IsS127.alloc | apply IsS127.drewN | apply IsS127.drew | apply IsS127.set_1 | apply IsS127.set_2 | refine IsS127.far ?_ NB321_320.out _) | exact HI321.out))) : g321 ≠ gb322)); have NB322_321 := zA ((by rw [hg]; exact Nat.ne_of_gt (IsS127.lt (show IsS127 w _ g321 l0 0 false from by repeat (first | (with_reducible first | exact HI321.out | apply IsS127.alloc | apply IsS127.drewN | apply IsS127.drew | apply IsS127.set_1 | apply IsS127.set_2 | refine IsS127.far ?_ NB321_320.out _) | exact HI321.out))) : gb322 ≠ g321)); replace HI321 := zA (IsS127.below (by repeat (first | (with_reducible first | exact HI321.out | apply IsS127.alloc | apply IsS127.drewN | apply IsS127.drew | apply IsS127.set_1 | apply IsS127.set_2 | refine IsS127.far ?_ NB321_320.out _) | exact HI321.out)) hb); clear hb hbox hg))
 (try simp only [Act.put, List.setIfInBounds_toArray, List.set_cons_zero, List.set_cons_succ])
 have H := HC7.out
 clear HC7
 obtain ⟨⟨t323, t324, t325⟩, A9, H⟩ := zB H
 try dsimp only at H
 have HC10 := zA H
 clear H
 go_upto_region 4 with (first | ((with_reducible refine gate_callee (f := 113) rfl ?_); refine goesL_ (some 11) rfl rfl Try.func113 (by kernel_rfl) rfl #[.pointer (some ⟨g321, 0, none⟩), .int .i64 1] rfl zq1 ?_; (with_reducible refine (impl_parts_num.calls k g321 l0 0 false 1 t323 t324 t325 w _ ?side1 ?side2 A9.out).mono ?_); (case side1 => repeat (first | (with_reducible first | exact HI321.out | apply IsS127.alloc | apply IsS127.drewN | apply IsS127.drew | apply IsS127.set_1 | apply IsS127.set_2 | refine IsS127.far ?_ NB321_320.out _ | refine IsS127.far ?_ NB321_322.out _) | exact HI321.out)); (case side2 => repeat (first | (with_reducible first | exact HB.out | apply below_alloc | apply pw_below_drewN | apply below_drew1 | refine below_set ?_ (IsS127.ge HI321.out) | refine below_set ?_ GE320.out | refine below_set ?_ GE322.out) | exact HB.out)); rintro e w11 ⟨rfl, hi, hb, hk⟩; refine ⟨_, rfl, ?_⟩; replace BK320 := zA (KeepBut.blk hk (g' := gb320) (o := .cells #[.int .i64 0, .int .i64 0, .int .i64 0, .slice none 0 0] 54 (0, 0)) zq53 NB320_321.out zq125); replace BK322 := zA (KeepBut.blk hk (g' := gb322) (o := .cells #[.int .i64 0, .int .i64 0, .int .i64 0, .slice none 0 0] 54 (0, 0)) zq92 NB322_321.out zq125); replace HB := zA (hb); replace HI321 := zA (hi); clear hb hk hi; have hnb12 := NB322_320.out; have hnc12 := NB320_322.out; have hnb13 := NB322_321.out; have hnc13 := NB321_322.out; have hcz14_0 : w11.cell? ⟨gb322, 0, none⟩ = some (.int .i64 0) := (blk_cell BK322.out 0).trans rfl; have hcz14_1 : w11.cell? ⟨gb322, 1, none⟩ = some (.int .i64 0) := (blk_cell BK322.out 1).trans rfl; have hcz14_2 : w11.cell? ⟨gb322, 2, none⟩ = some (.int .i64 0) := (blk_cell BK322.out 2).trans rfl; have hcz14_3 : w11.cell? ⟨gb322, 3, none⟩ = some (.slice none 0 0) := (blk_cell BK322.out 3).trans rfl; have hfz14_0 := blk_frozen BK322.out 0; have hfz14_1 := blk_frozen BK322.out 1; have hfz14_2 := blk_frozen BK322.out 2; have hfz14_3 := blk_frozen BK322.out 3))
 (try simp only [Act.put, List.setIfInBounds_toArray, List.set_cons_zero, List.set_cons_succ])
 have H := HC10.out
 clear HC10
 obtain ⟨⟨t326, t327, t328⟩, A15, H⟩ := zB H
 try dsimp only at H
 have HC16 := zA H
 clear H
 go_upto_region 5 with (first | ((with_reducible refine gate_callee (f := 113) rfl ?_); refine goesL_ (some 14) rfl rfl Try.func113 (by kernel_rfl) rfl #[.pointer (some ⟨g321, 0, none⟩), .int .i64 1] rfl zq1 ?_; (with_reducible refine (impl_parts_num.calls k g321 l0 t324 t325 1 t326 t327 t328 w _ ?side1 ?side2 A15.out).mono ?_); (case side1 => repeat (first | (with_reducible first | exact HI321.out | apply IsS127.alloc | apply IsS127.drewN | apply IsS127.drew | apply IsS127.set_1 | apply IsS127.set_2 | refine IsS127.far ?_ NB321_320.out _ | refine IsS127.far ?_ NB321_322.out _) | exact HI321.out)); (case side2 => repeat (first | (with_reducible first | exact HB.out | apply below_alloc | apply pw_below_drewN | apply below_drew1 | refine below_set ?_ (IsS127.ge HI321.out) | refine below_set ?_ GE320.out | refine below_set ?_ GE322.out) | exact HB.out)); rintro e w17 ⟨rfl, hi, hb, hk⟩; refine ⟨_, rfl, ?_⟩; replace BK320 := zA (KeepBut.blk hk (g' := gb320) (o := .cells #[.int .i64 0, .int .i64 0, .int .i64 0, .slice none 0 0] 54 (0, 0)) zq60 NB320_321.out zq125); replace BK322 := zA (KeepBut.blk hk (g' := gb322) (o := .cells #[.int .i64 t323, .int .i64 0, .int .i64 0, .slice none 0 0] 54 (0, 0)) (by (with_reducible repeat (first | refine blk_drewN ?_ _ | refine blk_drew ?_ | refine blk_alloc ?_ _)); refine blk_put (cs := #[.int .i64 0, .int .i64 0, .int .i64 0, .slice none 0 0]) ?_ 0 _ rfl; (with_reducible repeat (first | refine blk_drewN ?_ _ | refine blk_drew ?_ | refine blk_alloc ?_ _)); exact BK322.out) NB322_321.out zq125); replace HB := zA (hb); replace HI321 := zA (hi); clear hb hk hi; have hnb18 := NB322_320.out; have hnc18 := NB320_322.out; have hnb19 := NB322_321.out; have hnc19 := NB321_322.out; have hcz20_0 : w17.cell? ⟨gb322, 0, none⟩ = some (.int .i64 t323) := (blk_cell BK322.out 0).trans rfl; have hcz20_1 : w17.cell? ⟨gb322, 1, none⟩ = some (.int .i64 0) := (blk_cell BK322.out 1).trans rfl; have hcz20_2 : w17.cell? ⟨gb322, 2, none⟩ = some (.int .i64 0) := (blk_cell BK322.out 2).trans rfl; have hcz20_3 : w17.cell? ⟨gb322, 3, none⟩ = some (.slice none 0 0) := (blk_cell BK322.out 3).trans rfl; have hfz20_0 := blk_frozen BK322.out 0; have hfz20_1 := blk_frozen BK322.out 1; have hfz20_2 := blk_frozen BK322.out 2; have hfz20_3 := blk_frozen BK322.out 3))
 (try simp only [Act.put, List.setIfInBounds_toArray, List.set_cons_zero, List.set_cons_succ])
 have H := HC16.out
 clear HC16
 have HC21 := zA H
 clear H
 go_upto_region 5 with (fail)
 go_cut [39] (fun v39 wc => ∃ (kq : Nat) (x39_20 : Bool), v39 = .bool x39_20 ∧ Aside0 (impl_GetFrame.j0 kq l0 x39_20 l0 t327 t328 t323 t326 0 = some (r1, r2, r3, r4, r5)) ∧ Aside0 (kq ≤ k) ∧ Aside0 (wc.heap[gb320]? = some (.cells #[.int .i64 0, .int .i64 0, .int .i64 0, (.slice none 0 0)] 54 (0, 0))) ∧ Aside0 (wc.heap[gb322]? = some (.cells #[.int .i64 t323, .int .i64 t326, .int .i64 0, (.slice none 0 0)] 54 (0, 0))) ∧ Aside0 (IsS127 w wc g321 l0 t327 t328) ∧ Aside0 (Below w.heap.size w wc))
 case first =>
  have H := HC21.out
  clear HC21
  by_cases c22 : t328 = true
  ·subst c22
   rw [if_pos rfl] at H
   have H' := zA H
   clear H
   obtain ⟨ASz23_0, cSz23_0, HGz23, hgz23, ⟨HSz23_0, HSKz23_0⟩⟩ := HI321.out
   have HSCz23_0 := zA HSKz23_0
   clear HSKz23_0
   have hcz23_0 := cellS127_0 HGz23
   have hcz23_1 := cellS127_1 HGz23
   have hcz23_2 := cellS127_2 HGz23
   have hfz23_1 := blk_frozen HGz23 1
   have hfz23_2 := blk_frozen HGz23 2
   clear HGz23 hgz23
   go_wp2
   go_meet
   case rel => exact ⟨_, (false), zq25, H', ⟨zq97⟩, ⟨zq60⟩, ⟨zq112⟩, ⟨zq74⟩, ⟨zq24⟩⟩
  ·replace c22 := Bool.eq_false_iff.mpr c22
   subst c22
   rw [if_neg zF] at H
   by_cases c24 : t327 < (l0.length : Int)
   ·rw [if_pos c24] at H
    have c24b0 : decide (t327 < (l0.length : Int)) = true := decide_eq_true c24
    clear c24
    (first | rw [c24b0] | (simp only [i64_w, i32_w]; rw [c24b0]) | skip)
    obtain ⟨c25, H⟩ := zN H
    have c25b0 : decide (0 ≤ t327) = true := decide_eq_true c25
    clear c25
    have H' := zA H
    clear H
    obtain ⟨ASz26_0, cSz26_0, HGz26, hgz26, ⟨HSz26_0, HSKz26_0⟩⟩ := HI321.out
    have HSCz26_0 := zA HSKz26_0
    clear HSKz26_0
    have hcz26_0 := cellS127_0 HGz26
    have hcz26_1 := cellS127_1 HGz26
    have hcz26_2 := cellS127_2 HGz26
    have hfz26_1 := blk_frozen HGz26 1
    have hfz26_2 := blk_frozen HGz26 2
    clear HGz26 hgz26
    have p329 : 0 ≤ (t327 : Int) := of_decide_eq_true zq17
    have q329 : t327 < (l0.length : Int) := of_decide_eq_true zq17
    obtain ⟨ad329, e329, hx329_0⟩ := Kd.at_int HR0.out t327 p329 q329
    cases e329
    have hn329_0 : ad329.block ≠ gb322 := Nat.ne_of_lt (Nat.lt_of_lt_of_le (by have := World.block_lt_of_cell? _ _ hx329_0; first | rwa [add_block] at this | exact this) GW322.out)
    replace hx329_0 := (HB.out.cell (World.block_lt_of_cell? w _ hx329_0)).trans hx329_0
    replace hx329_0 := (cell_far (p := ⟨gb322, 1, none⟩) (by first | (rw [add_block]; exact hn329_0) | (show (Addr.add _ _).block ≠ _; rw [add_block]; exact hn329_0) | exact hn329_0) (.int .i64 t326)).trans hx329_0
    clear hn329_0
    replace p329 := eq_true p329
    replace q329 := eq_true q329
    go_wp2
    go_meet
    case rel => exact ⟨_, (((rd l0 t327) == 2)), zq25, H', ⟨zq97⟩, ⟨zq60⟩, ⟨zq112⟩, ⟨zq74⟩, ⟨zq24⟩⟩
   ·rw [if_neg c24] at H
    have c24b0 : decide (t327 < (l0.length : Int)) = false := decide_eq_false c24
    clear c24
    (first | rw [c24b0] | (simp only [i64_w, i32_w]; rw [c24b0]) | skip)
    have H' := zA H
    clear H
    obtain ⟨ASz27_0, cSz27_0, HGz27, hgz27, ⟨HSz27_0, HSKz27_0⟩⟩ := HI321.out
    have HSCz27_0 := zA HSKz27_0
    clear HSKz27_0
    have hcz27_0 := cellS127_0 HGz27
    have hcz27_1 := cellS127_1 HGz27
    have hcz27_2 := cellS127_2 HGz27
    have hfz27_1 := blk_frozen HGz27 1
    have hfz27_2 := blk_frozen HGz27 2
    clear HGz27 hgz27
    go_wp2
    go_meet
    case rel => exact ⟨_, (false), zq25, H', ⟨zq97⟩, ⟨zq60⟩, ⟨zq112⟩, ⟨zq74⟩, ⟨zq24⟩⟩
 case rest =>
  clear HC21
  try clear c1
  try clear c2
  try clear p2
  try clear p3
  try clear q3
  try clear hx3
  try clear c4
  try clear c11
  try clear c12
  try clear c13
  try clear c18
  try clear c19
  try clear c22
  try clear c24
  try clear c24b0
  try clear c25
  try clear c25b0
  try clear hcz14_0
  try clear hcz14_1
  try clear hcz14_2
  try clear hcz14_3
  try clear hcz20_0
  try clear hcz20_1
  try clear hcz20_2
  try clear hcz20_3
  try clear hcz23_0
  try clear hcz23_1
  try clear hcz23_2
  try clear hcz26_0
  try clear hcz26_1
  try clear hcz26_2
  try clear hcz27_0
  try clear hcz27_1
  try clear hcz27_2
  try clear hfz14_0
  try clear hfz14_1
  try clear hfz14_2
  try clear hfz14_3
  try clear hfz20_0
  try clear hfz20_1
  try clear hfz20_2
  try clear hfz20_3
  try clear hfz23_1
  try clear hfz23_2
  try clear hfz26_1
  try clear hfz26_2
  try clear hfz27_1
  try clear hfz27_2
  try clear hx329_0
  try clear p329
  try clear q329
  obtain ⟨kq, x39_20, rfl, HA, HJ20, BK320, BK322, HI321, HB⟩ := hcut
  cases kq with
  | zero => exact absurd HA.out (by simp [impl_GetFrame.j0])
  | succ kj20 =>
   have H := HA.out
   clear HA
   simp only [impl_GetFrame.j0] at H
   have HC28 := zA H
   clear H
   go_upto_if 39 with (fail)
   go_cut [] (fun wc => ∃ (kq : Nat) (x322001_27 : Int) (x322002_27 : Bool) (x323002_27 : Int), Aside0 (impl_GetFrame.j1 kq l0 l0 x322001_27 x322002_27 t323 t326 x323002_27 = some (r1, r2, r3, r4, r5)) ∧ Aside0 (kq ≤ kj20) ∧ Aside0 (wc.heap[gb320]? = some (.cells #[.int .i64 0, .int .i64 0, .int .i64 0, (.slice none 0 0)] 54 (0, 0))) ∧ Aside0 (wc.heap[gb322]? = some (.cells #[.int .i64 t323, .int .i64 t326, .int .i64 x323002_27, (.slice none 0 0)] 54 (0, 0))) ∧ Aside0 (IsS127 w wc g321 l0 x322001_27 x322002_27) ∧ Aside0 (Below w.heap.size w wc))
   case first =>
    have H := HC28.out
    clear HC28
    by_cases c29 : x39_20 = true
    ·subst c29
     rw [if_pos rfl] at H
     have HC30 := zA H
     clear H
     go_upto_region 6 with (fail)
     have H := HC30.out
     clear HC30
     obtain ⟨⟨t330, t331, t332⟩, A31, H⟩ := zB H
     try dsimp only at H
     have H' := zA H
     clear H
     go_wp2_with (first | ((with_reducible refine gate_callee (f := 113) rfl ?_); refine goesL_ (some 41) rfl rfl Try.func113 (by kernel_rfl) rfl #[.pointer (some ⟨g321, 0, none⟩), .int .i64 2] rfl zq1 ?_; (with_reducible refine (impl_parts_num.calls kj20 g321 l0 t327 t328 2 t330 t331 t332 w _ ?side1 ?side2 A31.out).mono ?_); (case side1 => repeat (first | (with_reducible first | exact HI321.out | apply IsS127.alloc | apply IsS127.drewN | apply IsS127.drew | apply IsS127.set_1 | apply IsS127.set_2 | refine IsS127.far ?_ NB321_320.out _ | refine IsS127.far ?_ NB321_322.out _) | exact HI321.out)); (case side2 => repeat (first | (with_reducible first | exact HB.out | apply below_alloc | apply pw_below_drewN | apply below_drew1 | refine below_set ?_ (IsS127.ge HI321.out) | refine below_set ?_ GE320.out | refine below_set ?_ GE322.out) | exact HB.out)); rintro e w32 ⟨rfl, hi, hb, hk⟩; refine ⟨_, rfl, ?_⟩; replace BK320 := zA (KeepBut.blk hk (g' := gb320) (o := .cells #[.int .i64 0, .int .i64 0, .int .i64 0, .slice none 0 0] 54 (0, 0)) zq53 NB320_321.out zq125); replace BK322 := zA (KeepBut.blk hk (g' := gb322) (o := .cells #[.int .i64 t323, .int .i64 t326, .int .i64 0, .slice none 0 0] 54 (0, 0)) zq92 NB322_321.out zq125); replace HB := zA (hb); replace HI321 := zA (hi); clear hb hk hi; have hnb33 := NB322_320.out; have hnc33 := NB320_322.out; have hnb34 := NB322_321.out; have hnc34 := NB321_322.out; have hcz35_0 : w32.cell? ⟨gb322, 0, none⟩ = some (.int .i64 t323) := (blk_cell BK322.out 0).trans rfl; have hcz35_1 : w32.cell? ⟨gb322, 1, none⟩ = some (.int .i64 t326) := (blk_cell BK322.out 1).trans rfl; have hcz35_2 : w32.cell? ⟨gb322, 2, none⟩ = some (.int .i64 0) := (blk_cell BK322.out 2).trans rfl; have hcz35_3 : w32.cell? ⟨gb322, 3, none⟩ = some (.slice none 0 0) := (blk_cell BK322.out 3).trans rfl; have hfz35_0 := blk_frozen BK322.out 0; have hfz35_1 := blk_frozen BK322.out 1; have hfz35_2 := blk_frozen BK322.out 2; have hfz35_3 := blk_frozen BK322.out 3))
     go_meet
     case rel => exact ⟨_, (t331), (t332), (t330), H', ⟨(by have := HJ20.out; first | omega | exact Nat.le_refl _)⟩, ⟨zq60⟩, ⟨(by (with_reducible repeat (first | refine blk_drewN ?_ _ | refine blk_drew ?_ | refine blk_alloc ?_ _)); refine blk_put (cs := #[.int .i64 t323, .int .i64 t326, .int .i64 0, .slice none 0 0]) ?_ 2 _ rfl; (with_reducible repeat (first | refine blk_drewN ?_ _ | refine blk_drew ?_ | refine blk_alloc ?_ _)); exact BK322.out)⟩, ⟨zq74⟩, ⟨zq24⟩⟩
    ·replace c29 := Bool.eq_false_iff.mpr c29
     subst c29
     rw [if_neg zF] at H
     have H' := zA H
     clear H
     go_wp2
     go_meet
     case rel => exact ⟨_, (t327), (t328), (0), H', ⟨(by have := HJ20.out; first | omega | exact Nat.le_refl _)⟩, ⟨zq53⟩, ⟨zq92⟩, ⟨zq74⟩, ⟨zq24⟩⟩
   case rest =>
    clear HC28
    try clear c1
    try clear c2
    try clear p2
    try clear c3
    try clear p3
    try clear q3
    try clear hx3
    try clear c4
    try clear c11
    try clear c12
    try clear c13
    try clear c18
    try clear c19
    try clear c22
    try clear c24
    try clear c24b0
    try clear c25
    try clear c25b0
    try clear c29
    try clear p32
    try clear q32
    try clear hx32
    try clear c33
    try clear c34
    try clear hcz14_0
    try clear hcz14_1
    try clear hcz14_2
    try clear hcz14_3
    try clear hcz20_0
    try clear hcz20_1
    try clear hcz20_2
    try clear hcz20_3
    try clear hcz23_0
    try clear hcz23_1
    try clear hcz23_2
    try clear hcz26_0
    try clear hcz26_1
    try clear hcz26_2
    try clear hcz27_0
    try clear hcz27_1
    try clear hcz27_2
    try clear hcz35_0
    try clear hcz35_1
    try clear hcz35_2
    try clear hcz35_3
    try clear hfz14_0
    try clear hfz14_1
    try clear hfz14_2
    try clear hfz14_3
    try clear hfz20_0
    try clear hfz20_1
    try clear hfz20_2
    try clear hfz20_3
    try clear hfz23_1
    try clear hfz23_2
    try clear hfz26_1
    try clear hfz26_2
    try clear hfz27_1
    try clear hfz27_2
    try clear hfz35_0
    try clear hfz35_1
    try clear hfz35_2
    try clear hfz35_3
    try clear hx329_0
    try clear p2
    try clear p3
    try clear p329
    try clear q3
    try clear q329
    obtain ⟨kq, x322001_27, x322002_27, x323002_27, HA, HJ27, BK320, BK322, HI321, HB⟩ := hcut
    cases kq with
    | zero => exact absurd HA.out (by simp [impl_GetFrame.j1])
    | succ kj27 =>
     have H := HA.out
     clear HA
     simp only [impl_GetFrame.j1] at H
     have HC36 := zA H
     clear H
     go_upto_region 7 with (fail)
     have H := HC36.out
     clear HC36
     obtain ⟨⟨t333, t336, t337⟩, A37, H⟩ := zB H
     try dsimp only at H
     have HC38 := zA H
     clear H
     go_upto_region 8 with (first | ((with_reducible refine gate_callee (f := 114) rfl ?_); refine goesL_ (some 44) rfl rfl Try.func114 (by kernel_rfl) rfl #[.pointer (some ⟨g321, 0, none⟩), .int .i64 3] rfl zq1 ?_; (with_reducible refine (impl_parts_part.calls g321 l0 x322001_27 x322002_27 3 t333 t336 t337 w _ ?side1 ?side2 A37.out).mono ?_); (case side1 => repeat (first | (with_reducible first | exact HI321.out | apply IsS127.alloc | apply IsS127.drewN | apply IsS127.drew | apply IsS127.set_1 | apply IsS127.set_2 | refine IsS127.far ?_ NB321_320.out _ | refine IsS127.far ?_ NB321_322.out _) | exact HI321.out)); (case side2 => repeat (first | (with_reducible first | exact HB.out | apply below_alloc | apply pw_below_drewN | apply below_drew1 | refine below_set ?_ (IsS127.ge HI321.out) | refine below_set ?_ GE320.out | refine below_set ?_ GE322.out) | exact HB.out)); rintro e w39 ⟨v334, rfl, ho0, hi, hb, hk⟩; refine ⟨_, rfl, ?_⟩; replace BK320 := zA (KeepBut.blk hk (g' := gb320) (o := .cells #[.int .i64 0, .int .i64 0, .int .i64 0, .slice none 0 0] 54 (0, 0)) zq53 NB320_321.out zq125); replace BK322 := zA (KeepBut.blk hk (g' := gb322) (o := .cells #[.int .i64 t323, .int .i64 t326, .int .i64 x323002_27, .slice none 0 0] 54 (0, 0)) zq92 NB322_321.out zq125); have HO335 := zA (Kd.R_lower ho0 (below_size zq24)); replace HB := zA (hb); replace HI321 := zA (hi); clear hb hk hi ho0; obtain ⟨Ao40, co40, eo40⟩ := Kd.R_slice HO335.out; subst eo40; have hnb41 := NB322_320.out; have hnc41 := NB320_322.out; have hnb42 := NB322_321.out; have hnc42 := NB321_322.out; have hcz43_0 : w39.cell? ⟨gb322, 0, none⟩ = some (.int .i64 t323) := (blk_cell BK322.out 0).trans rfl; have hcz43_1 : w39.cell? ⟨gb322, 1, none⟩ = some (.int .i64 t326) := (blk_cell BK322.out 1).trans rfl; have hcz43_2 : w39.cell? ⟨gb322, 2, none⟩ = some (.int .i64 x323002_27) := (blk_cell BK322.out 2).trans rfl; have hcz43_3 : w39.cell? ⟨gb322, 3, none⟩ = some (.slice none 0 0) := (blk_cell BK322.out 3).trans rfl; have hfz43_0 := blk_frozen BK322.out 0; have hfz43_1 := blk_frozen BK322.out 1; have hfz43_2 := blk_frozen BK322.out 2; have hfz43_3 := blk_frozen BK322.out 3))
     (try simp only [Act.put, List.setIfInBounds_toArray, List.set_cons_zero, List.set_cons_succ])
     have H := HC38.out
     clear HC38
     obtain ⟨t338, A44, H⟩ := zB H
     try dsimp only at H
     have HC45 := zA H
     clear H
     have hnb46 := NB322_320.out
     have hnc46 := NB320_322.out
     have hnb47 := NB322_321.out
     have hnc47 := NB321_322.out
     have hcz48_0 : w39.cell? ⟨gb322, 0, none⟩ = some (.int .i64 t323) := (blk_cell BK322.out 0).trans rfl
     have hcz48_1 : w39.cell? ⟨gb322, 1, none⟩ = some (.int .i64 t326) := (blk_cell BK322.out 1).trans rfl
     have hcz48_2 : w39.cell? ⟨gb322, 2, none⟩ = some (.int .i64 x323002_27) := (blk_cell BK322.out 2).trans rfl
     have hcz48_3 : w39.cell? ⟨gb322, 3, none⟩ = some (.slice none 0 0) := (blk_cell BK322.out 3).trans rfl
     have hfz48_0 := blk_frozen BK322.out 0
     have hfz48_1 := blk_frozen BK322.out 1
     have hfz48_2 := blk_frozen BK322.out 2
     have hfz48_3 := blk_frozen BK322.out 3
     go_upto_region 9 with (first | ((with_reducible refine gate_callee (f := 75) rfl ?_); refine goesL_ (some 47) rfl rfl Try.func75 (by kernel_rfl) rfl #[.agg #[.int .i64 t323, .int .i64 t326, .int .i64 x323002_27, .slice Ao40 t333.length co40]] rfl zq1 ?_; (with_reducible refine (impl_PutFrame.calls kj27 t323 t326 x323002_27 _ _ t333 t338 _ ?side1 ?side2 A44.out).mono ?_); (case side1 => refine (Kd.R_reads' (e := 5) (base := w.heap.size) (ok := fun k_ => True) (n := t333.length) (c := co40) ?_).2.2; exact zq124); (case side2 => exact (Kd.R_reads' HO335.out).2.1); rintro e w49 ⟨v339, rfl, ho0, hb⟩; refine ⟨_, rfl, ?_⟩; have HO340 := zA (Kd.R_lower (Kd.R_new' ho0 (Kd.R_lt zq124)) (below_size zq24)); replace HO335 := zA (Kd.R_elder' zq124 (Kd.R_base ho0) hb); replace BK320 := zA (blk_below (g := gb320) (o := .cells #[.int .i64 0, .int .i64 0, .int .i64 0, .slice none 0 0] 54 (0, 0)) zq60 hb); replace BK322 := zA (blk_below (g := gb322) (o := .cells #[.int .i64 t323, .int .i64 t326, .int .i64 x323002_27, .slice Ao40 t333.length co40] 54 (0, 0)) (by (with_reducible repeat (first | refine blk_drewN ?_ _ | refine blk_drew ?_ | refine blk_alloc ?_ _)); refine blk_put (cs := #[.int .i64 t323, .int .i64 t326, .int .i64 x323002_27, .slice none 0 0]) ?_ 3 _ rfl; (with_reducible repeat (first | refine blk_drewN ?_ _ | refine blk_drew ?_ | refine blk_alloc ?_ _)); exact BK322.out) hb); replace HB := zA (below_step zq24 hb); replace HI321 := zA (IsS127.below (show IsS127 w (w39.setCell ⟨gb322, 3, none⟩ (.slice Ao40 t333.length co40)) g321 l0 t336 t337 from by repeat (first | (with_reducible first | exact HI321.out | apply IsS127.alloc | apply IsS127.drewN | apply IsS127.drew | apply IsS127.set_1 | apply IsS127.set_2 | refine IsS127.far ?_ NB321_320.out _ | refine IsS127.far ?_ NB321_322.out _) | exact HI321.out)) hb); clear hb ho0))
     (try simp only [Act.put, List.setIfInBounds_toArray, List.set_cons_zero, List.set_cons_succ])
     have H := HC45.out
     clear HC45
     obtain ⟨⟨t341, t342, t343⟩, A50, H⟩ := zB H
     try dsimp only at H
     by_cases c51 : t341 = true
     ·subst c51
      rw [if_pos rfl] at H
      by_cases c52 : (t338.length : Int) = 0
      ·rw [if_pos c52] at H
       have c52b0 : ((t338.length : Int) == 0) = true := beq_iff_eq.mpr c52
       have c52b1 : ((t338.length : Int) != 0) = false := bne_eq_false_iff_eq.mpr c52
       clear c52
       have HC53 := zA H
       clear H
       go_upto_region 10 with (first | ((with_reducible refine gate_callee (f := 115) rfl ?_); refine goesL_ (some 49) rfl rfl Try.func115 (by kernel_rfl) rfl #[.pointer (some ⟨g321, 0, none⟩)] rfl zq1 ?_; (with_reducible refine (impl_parts_done.calls g321 l0 t336 t337 true t342 t343 w _ ?side1 ?side2 A50.out).mono ?_); (case side1 => repeat (first | (with_reducible first | exact HI321.out | apply IsS127.alloc | apply IsS127.drewN | apply IsS127.drew | apply IsS127.set_1 | apply IsS127.set_2 | refine IsS127.far ?_ NB321_320.out _ | refine IsS127.far ?_ NB321_322.out _) | exact HI321.out)); (case side2 => repeat (first | (with_reducible first | exact HB.out | apply below_alloc | apply pw_below_drewN | apply below_drew1 | refine below_set ?_ (IsS127.ge HI321.out) | refine below_set ?_ GE320.out | refine below_set ?_ GE322.out) | exact HB.out)); rintro e w54 ⟨rfl, hi, hb, hk⟩; refine ⟨_, rfl, ?_⟩; replace BK320 := zA (KeepBut.blk hk (g' := gb320) (o := .cells #[.int .i64 0, .int .i64 0, .int .i64 0, .slice none 0 0] 54 (0, 0)) zq53 NB320_321.out zq125); replace BK322 := zA (KeepBut.blk hk (g' := gb322) (o := .cells #[.int .i64 t323, .int .i64 t326, .int .i64 x323002_27, .slice Ao40 t333.length co40] 54 (0, 0)) zq92 NB322_321.out zq125); replace HO335 := zA (Kd.R_mono (Kd.R_keep (IsS127.apart (show IsS127 w _ g321 l0 t336 t337 from by repeat (first | (with_reducible first | exact HI321.out | apply IsS127.alloc | apply IsS127.drewN | apply IsS127.drew | apply IsS127.set_1 | apply IsS127.set_2 | refine IsS127.far ?_ NB321_320.out _ | refine IsS127.far ?_ NB321_322.out _) | exact HI321.out)) zq162 zq40) hk (fun _ h => h.2)) (fun _ h => h.1)); replace HO340 := zA (Kd.R_mono (Kd.R_keep (IsS127.apart (show IsS127 w _ g321 l0 t336 t337 from by repeat (first | (with_reducible first | exact HI321.out | apply IsS127.alloc | apply IsS127.drewN | apply IsS127.drew | apply IsS127.set_1 | apply IsS127.set_2 | refine IsS127.far ?_ NB321_320.out _ | refine IsS127.far ?_ NB321_322.out _) | exact HI321.out)) zq163 zq40) hk (fun _ h => h.2)) (fun _ h => h.1)); replace HB := zA (hb); replace HI321 := zA (hi); clear hb hk hi; obtain ⟨Ao55, co55, eo55⟩ := Kd.R_slice HO340.out; subst eo55))
       (try simp only [Act.put, List.setIfInBounds_toArray, List.set_cons_zero, List.set_cons_succ])
       have H := HC53.out
       clear HC53
       simp only [Option.some.injEq, Prod.mk.injEq] at H
       obtain ⟨rfl, rfl, rfl, rfl, rfl⟩ := H
       have hnb56 := NB320_322.out
       have hnc56 := NB322_320.out
       have hnb57 := NB320_321.out
       have hnc57 := NB321_320.out
       have hcz58_0 : w54.cell? ⟨gb320, 0, none⟩ = some (.int .i64 0) := (blk_cell BK320.out 0).trans rfl
       have hcz58_1 : w54.cell? ⟨gb320, 1, none⟩ = some (.int .i64 0) := (blk_cell BK320.out 1).trans rfl
       have hcz58_2 : w54.cell? ⟨gb320, 2, none⟩ = some (.int .i64 0) := (blk_cell BK320.out 2).trans rfl
       have hcz58_3 : w54.cell? ⟨gb320, 3, none⟩ = some (.slice none 0 0) := (blk_cell BK320.out 3).trans rfl
       have hfz58_0 := blk_frozen BK320.out 0
       have hfz58_1 := blk_frozen BK320.out 1
       have hfz58_2 := blk_frozen BK320.out 2
       have hfz58_3 := blk_frozen BK320.out 3
       go_wp2
       refine bodyPost_ret (results_ct rfl _ _ gb320 54 #[.int .i64 0, .int .i64 0, .int .i64 0, .slice none 0 0] (0, 0) _ rfl zq47 Try.underlying54 rfl (by kernel_rfl)) rfl ?_
       exact ⟨_, zq5, zq20, zq24⟩
      ·rw [if_neg c52] at H
       have c52b0 : ((t338.length : Int) == 0) = false := beq_eq_false_iff_ne.mpr c52
       have c52b1 : ((t338.length : Int) != 0) = true := bne_iff_ne.mpr c52
       have c52b2 : ¬ (t338 = []) := fun h_ => c52 (by rw [h_]; rfl)
       by_cases c59 : (strOfNums t338).toList = (strOfNums l0).toList
       ·rw [if_pos c59] at H
        have c59b0 : ((strOfNums t338).toList == (strOfNums l0).toList) = true := beq_iff_eq.mpr c59
        have c59b1 : ((strOfNums t338).toList != (strOfNums l0).toList) = false := bne_eq_false_iff_eq.mpr c59
        clear c59
        have HC60 := zA H
        clear H
        go_upto_region 11 with (first | ((with_reducible refine gate_callee (f := 115) rfl ?_); refine goesL_ (some 49) rfl rfl Try.func115 (by kernel_rfl) rfl #[.pointer (some ⟨g321, 0, none⟩)] rfl zq1 ?_; (with_reducible refine (impl_parts_done.calls g321 l0 t336 t337 true t342 t343 w _ ?side1 ?side2 A50.out).mono ?_); (case side1 => repeat (first | (with_reducible first | exact HI321.out | apply IsS127.alloc | apply IsS127.drewN | apply IsS127.drew | apply IsS127.set_1 | apply IsS127.set_2 | refine IsS127.far ?_ NB321_320.out _ | refine IsS127.far ?_ NB321_322.out _) | exact HI321.out)); (case side2 => repeat (first | (with_reducible first | exact HB.out | apply below_alloc | apply pw_below_drewN | apply below_drew1 | refine below_set ?_ (IsS127.ge HI321.out) | refine below_set ?_ GE320.out | refine below_set ?_ GE322.out) | exact HB.out)); rintro e w61 ⟨rfl, hi, hb, hk⟩; refine ⟨_, rfl, ?_⟩; replace BK320 := zA (KeepBut.blk hk (g' := gb320) (o := .cells #[.int .i64 0, .int .i64 0, .int .i64 0, .slice none 0 0] 54 (0, 0)) zq53 NB320_321.out zq125); replace BK322 := zA (KeepBut.blk hk (g' := gb322) (o := .cells #[.int .i64 t323, .int .i64 t326, .int .i64 x323002_27, .slice Ao40 t333.length co40] 54 (0, 0)) zq92 NB322_321.out zq125); replace HO335 := zA (Kd.R_mono (Kd.R_keep (IsS127.apart (show IsS127 w _ g321 l0 t336 t337 from by repeat (first | (with_reducible first | exact HI321.out | apply IsS127.alloc | apply IsS127.drewN | apply IsS127.drew | apply IsS127.set_1 | apply IsS127.set_2 | refine IsS127.far ?_ NB321_320.out _ | refine IsS127.far ?_ NB321_322.out _) | exact HI321.out)) zq162 zq40) hk (fun _ h => h.2)) (fun _ h => h.1)); replace HO340 := zA (Kd.R_mono (Kd.R_keep (IsS127.apart (show IsS127 w _ g321 l0 t336 t337 from by repeat (first | (with_reducible first | exact HI321.out | apply IsS127.alloc | apply IsS127.drewN | apply IsS127.drew | apply IsS127.set_1 | apply IsS127.set_2 | refine IsS127.far ?_ NB321_320.out _ | refine IsS127.far ?_ NB321_322.out _) | exact HI321.out)) zq163 zq40) hk (fun _ h => h.2)) (fun _ h => h.1)); replace HB := zA (hb); replace HI321 := zA (hi); clear hb hk hi; obtain ⟨Ao62, co62, eo62⟩ := Kd.R_slice HO340.out; subst eo62; have hcv63 := own_string (P := Try.prog) Try.underlying22 Try.underlying5 Try.underlying9 (Kd.own_of_R HO340.out); have hcv64 := Kd.C_string (P := Try.prog) (A := A0) (c := c0) Try.underlying22 Try.underlying5 Try.underlying9 (Kd.C_below HR0.out HB.out)))
        (try simp only [Act.put, List.setIfInBounds_toArray, List.set_cons_zero, List.set_cons_succ])
        have H := HC60.out
        clear HC60
        simp only [Option.some.injEq, Prod.mk.injEq] at H
        obtain ⟨rfl, rfl, rfl, rfl, rfl⟩ := H
        have hnb65 := NB322_320.out
        have hnc65 := NB320_322.out
        have hnb66 := NB322_321.out
        have hnc66 := NB321_322.out
        have hcz67_0 : w61.cell? ⟨gb322, 0, none⟩ = some (.int .i64 t323) := (blk_cell BK322.out 0).trans rfl
        have hcz67_1 : w61.cell? ⟨gb322, 1, none⟩ = some (.int .i64 t326) := (blk_cell BK322.out 1).trans rfl
        have hcz67_2 : w61.cell? ⟨gb322, 2, none⟩ = some (.int .i64 x323002_27) := (blk_cell BK322.out 2).trans rfl
        have hcz67_3 : w61.cell? ⟨gb322, 3, none⟩ = some (.slice Ao40 t333.length co40) := (blk_cell BK322.out 3).trans rfl
        have hfz67_0 := blk_frozen BK322.out 0
        have hfz67_1 := blk_frozen BK322.out 1
        have hfz67_2 := blk_frozen BK322.out 2
        have hfz67_3 := blk_frozen BK322.out 3
        have hnb68 := NB320_321.out
        have hnc68 := NB321_320.out
        have hcz69_0 : w61.cell? ⟨gb320, 0, none⟩ = some (.int .i64 0) := (blk_cell BK320.out 0).trans rfl
        have hcz69_1 : w61.cell? ⟨gb320, 1, none⟩ = some (.int .i64 0) := (blk_cell BK320.out 1).trans rfl
        have hcz69_2 : w61.cell? ⟨gb320, 2, none⟩ = some (.int .i64 0) := (blk_cell BK320.out 2).trans rfl
        have hcz69_3 : w61.cell? ⟨gb320, 3, none⟩ = some (.slice none 0 0) := (blk_cell BK320.out 3).trans rfl
        have hfz69_0 := blk_frozen BK320.out 0
        have hfz69_1 := blk_frozen BK320.out 1
        have hfz69_2 := blk_frozen BK320.out 2
        have hfz69_3 := blk_frozen BK320.out 3
        go_wp2
        refine bodyPost_ret (results_ct rfl _ _ gb320 54 #[.int .i64 t323, .int .i64 t326, .int .i64 x323002_27, .slice Ao40 t333.length co40] (0, 0) _ rfl (by (with_reducible repeat (first | refine blk_drewN ?_ _ | refine blk_drew ?_ | refine blk_alloc ?_ _)); refine blk_put (cs := #[.int .i64 t323, .int .i64 t326, .int .i64 x323002_27, .slice none 0 0]) ?_ 3 _ rfl; (with_reducible repeat (first | refine blk_drewN ?_ _ | refine blk_drew ?_ | refine blk_alloc ?_ _)); refine blk_put (cs := #[.int .i64 t323, .int .i64 t326, .int .i64 0, .slice none 0 0]) ?_ 2 _ rfl; (with_reducible repeat (first | refine blk_drewN ?_ _ | refine blk_drew ?_ | refine blk_alloc ?_ _)); refine blk_put (cs := #[.int .i64 t323, .int .i64 0, .int .i64 0, .slice none 0 0]) ?_ 1 _ rfl; (with_reducible repeat (first | refine blk_drewN ?_ _ | refine blk_drew ?_ | refine blk_alloc ?_ _)); refine blk_put (cs := #[.int .i64 0, .int .i64 0, .int .i64 0, .slice none 0 0]) ?_ 0 _ rfl; (with_reducible repeat (first | refine blk_drewN ?_ _ | refine blk_drew ?_ | refine blk_alloc ?_ _)); exact BK320.out) Try.underlying54 rfl (by kernel_rfl)) rfl ?_
        exact ⟨_, zq5, (by (with_reducible repeat (first | apply Kd.R_alloc | apply Kd.R_drewN | apply Kd.R_drew)); exact Kd.R_mono (Kd.R_far (p := ⟨gb320, 3, none⟩) (Kd.R_far (p := ⟨gb320, 2, none⟩) (Kd.R_far (p := ⟨gb320, 1, none⟩) (Kd.R_far (p := ⟨gb320, 0, none⟩) (Kd.R_types HO335.out BK320.out zq40) (fun _ hk => hk.2) (.int .i64 t323)) (fun _ hk => hk.2) (.int .i64 t326)) (fun _ hk => hk.2) (.int .i64 x323002_27)) (fun _ hk => hk.2) (.slice Ao40 t333.length co40)) (fun _ hk => trivial)), zq24⟩
       ·rw [if_neg c59] at H
        have c59b0 : ((strOfNums t338).toList == (strOfNums l0).toList) = false := beq_eq_false_iff_ne.mpr c59
        have c59b1 : ((strOfNums t338).toList != (strOfNums l0).toList) = true := bne_iff_ne.mpr c59
        have HC70 := zA H
        clear H
        go_upto_region 10 with (first | ((with_reducible refine gate_callee (f := 115) rfl ?_); refine goesL_ (some 49) rfl rfl Try.func115 (by kernel_rfl) rfl #[.pointer (some ⟨g321, 0, none⟩)] rfl zq1 ?_; (with_reducible refine (impl_parts_done.calls g321 l0 t336 t337 true t342 t343 w _ ?side1 ?side2 A50.out).mono ?_); (case side1 => repeat (first | (with_reducible first | exact HI321.out | apply IsS127.alloc | apply IsS127.drewN | apply IsS127.drew | apply IsS127.set_1 | apply IsS127.set_2 | refine IsS127.far ?_ NB321_320.out _ | refine IsS127.far ?_ NB321_322.out _) | exact HI321.out)); (case side2 => repeat (first | (with_reducible first | exact HB.out | apply below_alloc | apply pw_below_drewN | apply below_drew1 | refine below_set ?_ (IsS127.ge HI321.out) | refine below_set ?_ GE320.out | refine below_set ?_ GE322.out) | exact HB.out)); rintro e w71 ⟨rfl, hi, hb, hk⟩; refine ⟨_, rfl, ?_⟩; replace BK320 := zA (KeepBut.blk hk (g' := gb320) (o := .cells #[.int .i64 0, .int .i64 0, .int .i64 0, .slice none 0 0] 54 (0, 0)) zq53 NB320_321.out zq125); replace BK322 := zA (KeepBut.blk hk (g' := gb322) (o := .cells #[.int .i64 t323, .int .i64 t326, .int .i64 x323002_27, .slice Ao40 t333.length co40] 54 (0, 0)) zq92 NB322_321.out zq125); replace HO335 := zA (Kd.R_mono (Kd.R_keep (IsS127.apart (show IsS127 w _ g321 l0 t336 t337 from by repeat (first | (with_reducible first | exact HI321.out | apply IsS127.alloc | apply IsS127.drewN | apply IsS127.drew | apply IsS127.set_1 | apply IsS127.set_2 | refine IsS127.far ?_ NB321_320.out _ | refine IsS127.far ?_ NB321_322.out _) | exact HI321.out)) zq162 zq40) hk (fun _ h => h.2)) (fun _ h => h.1)); replace HO340 := zA (Kd.R_mono (Kd.R_keep (IsS127.apart (show IsS127 w _ g321 l0 t336 t337 from by repeat (first | (with_reducible first | exact HI321.out | apply IsS127.alloc | apply IsS127.drewN | apply IsS127.drew | apply IsS127.set_1 | apply IsS127.set_2 | refine IsS127.far ?_ NB321_320.out _ | refine IsS127.far ?_ NB321_322.out _) | exact HI321.out)) zq163 zq40) hk (fun _ h => h.2)) (fun _ h => h.1)); replace HB := zA (hb); replace HI321 := zA (hi); clear hb hk hi; obtain ⟨Ao72, co72, eo72⟩ := Kd.R_slice HO340.out; subst eo72; have hcv73 := own_string (P := Try.prog) Try.underlying22 Try.underlying5 Try.underlying9 (Kd.own_of_R HO340.out); have hcv74 := Kd.C_string (P := Try.prog) (A := A0) (c := c0) Try.underlying22 Try.underlying5 Try.underlying9 (Kd.C_below HR0.out HB.out)))
        (try simp only [Act.put, List.setIfInBounds_toArray, List.set_cons_zero, List.set_cons_succ])
        have H := HC70.out
        clear HC70
        simp only [Option.some.injEq, Prod.mk.injEq] at H
        obtain ⟨rfl, rfl, rfl, rfl, rfl⟩ := H
        have hnb75 := NB320_322.out
        have hnc75 := NB322_320.out
        have hnb76 := NB320_321.out
        have hnc76 := NB321_320.out
        have hcz77_0 : w71.cell? ⟨gb320, 0, none⟩ = some (.int .i64 0) := (blk_cell BK320.out 0).trans rfl
        have hcz77_1 : w71.cell? ⟨gb320, 1, none⟩ = some (.int .i64 0) := (blk_cell BK320.out 1).trans rfl
        have hcz77_2 : w71.cell? ⟨gb320, 2, none⟩ = some (.int .i64 0) := (blk_cell BK320.out 2).trans rfl
        have hcz77_3 : w71.cell? ⟨gb320, 3, none⟩ = some (.slice none 0 0) := (blk_cell BK320.out 3).trans rfl
        have hfz77_0 := blk_frozen BK320.out 0
        have hfz77_1 := blk_frozen BK320.out 1
        have hfz77_2 := blk_frozen BK320.out 2
        have hfz77_3 := blk_frozen BK320.out 3
        go_wp2
        refine bodyPost_ret (results_ct rfl _ _ gb320 54 #[.int .i64 0, .int .i64 0, .int .i64 0, .slice none 0 0] (0, 0) _ rfl zq47 Try.underlying54 rfl (by kernel_rfl)) rfl ?_
        exact ⟨_, zq5, zq20, zq24⟩
     ·replace c51 := Bool.eq_false_iff.mpr c51
      subst c51
      rw [if_neg zF] at H
      have HC78 := zA H
      clear H
      go_upto_region 10 with (first | ((with_reducible refine gate_callee (f := 115) rfl ?_); refine goesL_ (some 49) rfl rfl Try.func115 (by kernel_rfl) rfl #[.pointer (some ⟨g321, 0, none⟩)] rfl zq1 ?_; (with_reducible refine (impl_parts_done.calls g321 l0 t336 t337 false t342 t343 w _ ?side1 ?side2 A50.out).mono ?_); (case side1 => repeat (first | (with_reducible first | exact HI321.out | apply IsS127.alloc | apply IsS127.drewN | apply IsS127.drew | apply IsS127.set_1 | apply IsS127.set_2 | refine IsS127.far ?_ NB321_320.out _ | refine IsS127.far ?_ NB321_322.out _) | exact HI321.out)); (case side2 => repeat (first | (with_reducible first | exact HB.out | apply below_alloc | apply pw_below_drewN | apply below_drew1 | refine below_set ?_ (IsS127.ge HI321.out) | refine below_set ?_ GE320.out | refine below_set ?_ GE322.out) | exact HB.out)); rintro e w79 ⟨rfl, hi, hb, hk⟩; refine ⟨_, rfl, ?_⟩; replace BK320 := zA (KeepBut.blk hk (g' := gb320) (o := .cells #[.int .i64 0, .int .i64 0, .int .i64 0, .slice none 0 0] 54 (0, 0)) zq53 NB320_321.out zq125); replace BK322 := zA (KeepBut.blk hk (g' := gb322) (o := .cells #[.int .i64 t323, .int .i64 t326, .int .i64 x323002_27, .slice Ao40 t333.length co40] 54 (0, 0)) zq92 NB322_321.out zq125); replace HO335 := zA (Kd.R_mono (Kd.R_keep (IsS127.apart (show IsS127 w _ g321 l0 t336 t337 from by repeat (first | (with_reducible first | exact HI321.out | apply IsS127.alloc | apply IsS127.drewN | apply IsS127.drew | apply IsS127.set_1 | apply IsS127.set_2 | refine IsS127.far ?_ NB321_320.out _ | refine IsS127.far ?_ NB321_322.out _) | exact HI321.out)) zq162 zq40) hk (fun _ h => h.2)) (fun _ h => h.1)); replace HO340 := zA (Kd.R_mono (Kd.R_keep (IsS127.apart (show IsS127 w _ g321 l0 t336 t337 from by repeat (first | (with_reducible first | exact HI321.out | apply IsS127.alloc | apply IsS127.drewN | apply IsS127.drew | apply IsS127.set_1 | apply IsS127.set_2 | refine IsS127.far ?_ NB321_320.out _ | refine IsS127.far ?_ NB321_322.out _) | exact HI321.out)) zq163 zq40) hk (fun _ h => h.2)) (fun _ h => h.1)); replace HB := zA (hb); replace HI321 := zA (hi); clear hb hk hi))
      (try simp only [Act.put, List.setIfInBounds_toArray, List.set_cons_zero, List.set_cons_succ])
      have H := HC78.out
      clear HC78
      simp only [Option.some.injEq, Prod.mk.injEq] at H
      obtain ⟨rfl, rfl, rfl, rfl, rfl⟩ := H
      have hnb80 := NB320_322.out
      have hnc80 := NB322_320.out
      have hnb81 := NB320_321.out
      have hnc81 := NB321_320.out
      have hcz82_0 : w79.cell? ⟨gb320, 0, none⟩ = some (.int .i64 0) := (blk_cell BK320.out 0).trans rfl
      have hcz82_1 : w79.cell? ⟨gb320, 1, none⟩ = some (.int .i64 0) := (blk_cell BK320.out 1).trans rfl
      have hcz82_2 : w79.cell? ⟨gb320, 2, none⟩ = some (.int .i64 0) := (blk_cell BK320.out 2).trans rfl
      have hcz82_3 : w79.cell? ⟨gb320, 3, none⟩ = some (.slice none 0 0) := (blk_cell BK320.out 3).trans rfl
      have hfz82_0 := blk_frozen BK320.out 0
      have hfz82_1 := blk_frozen BK320.out 1
      have hfz82_2 := blk_frozen BK320.out 2
      have hfz82_3 := blk_frozen BK320.out 3
      go_wp2
      refine bodyPost_ret (results_ct rfl _ _ gb320 54 #[.int .i64 0, .int .i64 0, .int .i64 0, .slice none 0 0] (0, 0) _ rfl zq47 Try.underlying54 rfl (by kernel_rfl)) rfl ?_
      exact ⟨_, zq5, zq20, zq24⟩

/-- A state of type 170 at block g of W; what its slices lead to came in by w0. -/
def IsS170 (w0 W : World) (g : Nat) (f0 : List Int) (f1 : Int) (f2 : Int) : Prop := ∃ A0 c0, W.heap[g]? = some (.cells #[.slice A0 f0.length c0, .int .i64 f1, .int .i64 f2] 170 (0, 0)) ∧ w0.heap.size ≤ g ∧ (Kd.C (Kd.int .u8) w0 A0 f0.length f0 ∧ f0.length ≤ c0)
theorem IsS170.grown {w0 W : World} {g : Nat} {f0 : List Int} {f1 : Int} {f2 : Int} {W1 : World} {row : Option Nat} (h : IsS170 w0 W g f0 f1 f2) (hw : W.grownBy W1 row) (hne : some g ≠ row) : IsS170 w0 W1 g f0 f1 f2 := by
 obtain ⟨A0, c0, hb, hg, hr0⟩ := h
 exact ⟨A0, c0, blk_grown hb hw hne, hg, hr0⟩
theorem IsS170.own_neN {w0 W : World} {g : Nat} {f0 : List Int} {f1 : Int} {f2 : Int} {α : Type} {d : Kd α} {e : Nat} {base : Nat} {ok : Nat → Prop} {v : Value} {xs : List α} (h : IsS170 w0 W g f0 f1 f2) (ho : Kd.N d e W base ok v xs) (ht : e ≠ 170) : some g ≠ v.ownBlock := by
 obtain ⟨A0, c0, hb, hg, hr0⟩ := h
 exact Kd.N_ne ho hb ht
theorem IsS170.fresh {w0 W : World} {g : Nat} {f0 : List Int} {f1 : Int} {f2 : Int} (h : IsS170 w0 W g f0 f1 f2) : ∀ k, W.heap.size ≤ k → k ≠ g := by
 obtain ⟨A0, c0, hb, hg, hr0⟩ := h
 exact Kd.freshB hb
theorem IsS170.kept {w0 W : World} {g : Nat} {f0 : List Int} {f1 : Int} {f2 : Int} {W1 : World} {S : Nat → Prop} (h : IsS170 w0 W g f0 f1 f2) (hk : Kept W W1 S) (hne : ¬ S g) : IsS170 w0 W1 g f0 f1 f2 := by
 obtain ⟨A0, c0, hb, hg, hr0⟩ := h
 exact ⟨A0, c0, blk_kept hb hk hne, hg, hr0⟩
theorem IsS170.below {w0 W : World} {g : Nat} {f0 : List Int} {f1 : Int} {f2 : Int} {W1 : World} (h : IsS170 w0 W g f0 f1 f2) (hw : Below W.heap.size W W1) : IsS170 w0 W1 g f0 f1 f2 := h.grown (grown_of_below hw none) zq125
theorem IsS170.alloc {w0 W : World} {g : Nat} {f0 : List Int} {f1 : Int} {f2 : Int} (h : IsS170 w0 W g f0 f1 f2) (o : Obj) : IsS170 w0 (W.alloc o) g f0 f1 f2 := h.below (below_alloc (Below.refl _ _) o)
theorem IsS170.drewN {w0 W : World} {g : Nat} {f0 : List Int} {f1 : Int} {f2 : Int} (h : IsS170 w0 W g f0 f1 f2) (m : Nat) : IsS170 w0 (W.drewN m) g f0 f1 f2 := h
theorem IsS170.drew {w0 W : World} {g : Nat} {f0 : List Int} {f1 : Int} {f2 : Int} (h : IsS170 w0 W g f0 f1 f2) : IsS170 w0 W.drew g f0 f1 f2 := h
theorem IsS170.at_ {w0 W : World} {g : Nat} {f0 : List Int} {f1 : Int} {f2 : Int} {w' : World} {m : Nat} (hq : W.drewN m = w') (h : IsS170 w0 W g f0 f1 f2) : IsS170 w0 w' g f0 f1 f2 := by subst hq; exact IsS170.drewN h m
theorem IsS170.apart {w0 W : World} {g : Nat} {f0 : List Int} {f1 : Int} {f2 : Int} {α : Type} {d : Kd α} {e : Nat} {base : Nat} {ok : Nat → Prop} {v : Value} {xs : List α} (h : IsS170 w0 W g f0 f1 f2) (ho : d.R e W base ok v xs) (ht : ∀ q, q ∈ e :: d.E → q ≠ 170) : d.R e W base (fun k => ok k ∧ k ≠ g) v xs := by
 obtain ⟨A0, c0, hb, hg, hr0⟩ := h
 exact Kd.R_types ho hb ht
theorem IsS170.own_ne {w0 W : World} {g : Nat} {f0 : List Int} {f1 : Int} {f2 : Int} {α : Type} {d : Kd α} {e : Nat} {base : Nat} {ok : Nat → Prop} {v : Value} {xs : List α} (h : IsS170 w0 W g f0 f1 f2) (ho : d.R e W base ok v xs) (ht : e ≠ 170) : some g ≠ v.ownBlock := by
 obtain ⟨A0, c0, hb, hg, hr0⟩ := h
 exact Kd.R_ne ho hb ht
theorem IsS170.apartQ {w0 W : World} {g : Nat} {f0 : List Int} {f1 : Int} {f2 : Int} {α : Type} {d : Kd α} {e : Nat} {base : Nat} {ok : Nat → Prop} {v : Value} {xs : List α} (h : IsS170 w0 W g f0 f1 f2) (ho : d.Q e W base ok v xs) (ht : ∀ q, q ∈ e :: d.E → q ≠ 170) : d.Q e W base (fun k => ok k ∧ k ≠ g) v xs := by
 obtain ⟨A0, c0, hb, hg, hr0⟩ := h
 exact Kd.Q_types ho hb ht
theorem IsS170.own_neQ {w0 W : World} {g : Nat} {f0 : List Int} {f1 : Int} {f2 : Int} {α : Type} {d : Kd α} {e : Nat} {base : Nat} {ok : Nat → Prop} {v : Value} {xs : List α} (h : IsS170 w0 W g f0 f1 f2) (ho : d.Q e W base ok v xs) (ht : e ≠ 170) : some g ≠ v.ownBlock := by
 obtain ⟨A0, c0, hb, hg, hr0⟩ := h
 exact Kd.Q_ne ho hb ht
theorem IsS170.apartS {w0 W : World} {g : Nat} {f0 : List Int} {f1 : Int} {f2 : Int} {α : Type} {d : Kd α} {e : Nat} {base : Nat} {ok : Nat → Prop} {v : Value} {xs : List α} (h : IsS170 w0 W g f0 f1 f2) (ho : d.S e W base ok v xs) (ht : ∀ q, q ∈ e :: d.E → q ≠ 170) : d.S e W base (fun k => ok k ∧ k ≠ g) v xs := by
 obtain ⟨A0, c0, hb, hg, hr0⟩ := h
 exact Kd.S_types ho hb ht
theorem IsS170.own_neS {w0 W : World} {g : Nat} {f0 : List Int} {f1 : Int} {f2 : Int} {α : Type} {d : Kd α} {e : Nat} {base : Nat} {ok : Nat → Prop} {v : Value} {xs : List α} (h : IsS170 w0 W g f0 f1 f2) (ho : d.S e W base ok v xs) (ht : e ≠ 170) : some g ≠ v.ownBlock := by
 obtain ⟨A0, c0, hb, hg, hr0⟩ := h
 exact Kd.S_ne ho hb ht
theorem IsS170.lt {w0 W : World} {g : Nat} {f0 : List Int} {f1 : Int} {f2 : Int} (h : IsS170 w0 W g f0 f1 f2) : g < W.heap.size := by
 obtain ⟨A0, c0, hb, hg, hr0⟩ := h
 exact blk_lt hb
theorem IsS170.ge {w0 W : World} {g : Nat} {f0 : List Int} {f1 : Int} {f2 : Int} (h : IsS170 w0 W g f0 f1 f2) : w0.heap.size ≤ g := by
 obtain ⟨A0, c0, hb, hg, hr0⟩ := h
 exact hg
theorem IsS170.ne_blk {w0 W : World} {g : Nat} {f0 : List Int} {f1 : Int} {f2 : Int} {a : Nat} {cs : Array Value} {t : TypeId} {fr : Nat × Nat} (h : IsS170 w0 W g f0 f1 f2) (hb2 : W.heap[a]? = some (.cells cs t fr)) (ht : t ≠ 170) : g ≠ a := by
 obtain ⟨A0, c0, hb, hg, hr0⟩ := h
 rintro rfl
 rw [hb] at hb2
 injection hb2 with hb2
 injection hb2 with _ ht2
 exact ht ht2.symm
theorem IsS170.far {w0 W : World} {g : Nat} {f0 : List Int} {f1 : Int} {f2 : Int} {p : Addr} (h : IsS170 w0 W g f0 f1 f2) (hne : g ≠ p.block) (u : Value) : IsS170 w0 (W.setCell p u) g f0 f1 f2 := by
 obtain ⟨A0, c0, hb, hg, hr0⟩ := h
 exact ⟨A0, c0, blk_far hb hne u, hg, hr0⟩
theorem cellS170_0 {W : World} {g : Nat} {A0 : Option Addr} {c0 : Nat} {f0 : List Int} {f1 : Int} {f2 : Int} (h : W.heap[g]? = some (.cells #[.slice A0 f0.length c0, .int .i64 f1, .int .i64 f2] 170 (0, 0))) : W.cell? ⟨g, 0, none⟩ = some (.slice A0 f0.length c0) := (blk_cell h 0).trans rfl
theorem cellS170_1 {W : World} {g : Nat} {A0 : Option Addr} {c0 : Nat} {f0 : List Int} {f1 : Int} {f2 : Int} (h : W.heap[g]? = some (.cells #[.slice A0 f0.length c0, .int .i64 f1, .int .i64 f2] 170 (0, 0))) : W.cell? ⟨g, 1, none⟩ = some (.int .i64 f1) := (blk_cell h 1).trans rfl
theorem IsS170.set_1 {w0 W : World} {g : Nat} {f0 : List Int} {f1 : Int} {f2 : Int} (h : IsS170 w0 W g f0 f1 f2) (x : Int) : IsS170 w0 (W.setCell ⟨g, 1, none⟩ (.int .i64 x)) g f0 x f2 := by
 obtain ⟨A0, c0, hb, hg, hr0⟩ := h
 exact ⟨A0, c0, (by simpa using blk_set hb 1 (.int .i64 x)), hg, hr0⟩
theorem cellS170_2 {W : World} {g : Nat} {A0 : Option Addr} {c0 : Nat} {f0 : List Int} {f1 : Int} {f2 : Int} (h : W.heap[g]? = some (.cells #[.slice A0 f0.length c0, .int .i64 f1, .int .i64 f2] 170 (0, 0))) : W.cell? ⟨g, 2, none⟩ = some (.int .i64 f2) := (blk_cell h 2).trans rfl
theorem IsS170.set_2 {w0 W : World} {g : Nat} {f0 : List Int} {f1 : Int} {f2 : Int} (h : IsS170 w0 W g f0 f1 f2) (x : Int) : IsS170 w0 (W.setCell ⟨g, 2, none⟩ (.int .i64 x)) g f0 f1 x := by
 obtain ⟨A0, c0, hb, hg, hr0⟩ := h
 exact ⟨A0, c0, (by simpa using blk_set hb 2 (.int .i64 x)), hg, hr0⟩
theorem IsS170.new (w0 W : World) (A0 : Option Addr) (c0 : Nat) (f0 : List Int) (f1 : Int) (f2 : Int) (hB : Below w0.heap.size w0 W) (hr0 : Kd.C (Kd.int .u8) w0 A0 f0.length f0 ∧ f0.length ≤ c0) : IsS170 w0 (W.alloc (.cells #[.slice A0 f0.length c0, .int .i64 f1, .int .i64 f2] 170)) W.heap.size f0 f1 f2 := ⟨A0, c0, (by simpa using heap_alloc_new W _), hB.size, hr0⟩

/-! ### spec_l1New: function 104 -/
def spec_l1New.l0 : Nat → List Int → Int → Int → Option (List Int × Int × Int)
 | 0, _, _, _ => none
 | k + 1, x0, x3, x4 => if x4 < (x0.length : Int) then (if x4 < 4000 then (if 0 ≤ x4 then (spec_l1New.l0 k x0 (Go.bits .and .i64 (wrap64 ((wrap64 ((wrap64 (x3 * 137)) + (wrap64 (rd x0 x4)))) + 11)) 1073741823) (wrap64 (x4 + 1))) else (none)) else (some (x0, 0, x3))) else (some (x0, 0, x3))
def spec_l1New.f (k : Nat) (l0 : List Int) : Option (List Int × Int × Int) := spec_l1New.l0 k l0 (wrap64 (762762 + (l0.length : Int))) 0
theorem spec_l1New.mono_l : ∀ k, (∀ y0 y1 y2, LeO (spec_l1New.l0 k y0 y1 y2) (spec_l1New.l0 (k + 1) y0 y1 y2))
 | 0 => fun _ _ _ r h => by simp [spec_l1New.l0] at h
 | k + 1 => by
  have ih0 := spec_l1New.mono_l k
  ·intro y0 y1 y2
   unfold spec_l1New.l0
   exact zR
theorem spec_l1New.mono : ∀ a0 k, LeO (spec_l1New.f k a0) (spec_l1New.f (k + 1) a0) := by
 intro a0 k
 have ih0 := spec_l1New.mono_l k
 unfold spec_l1New.f
 exact zR
set_option maxHeartbeats 8000000 in
set_option maxRecDepth 100000 in
theorem spec_l1New.calls (k : Nat) (A0 : Option Addr) (c0 : Nat) (l0 : List Int) (r1 : List Int) (r2 : Int) (r3 : Int) (w0 w : World) (hB : Below w0.heap.size w0 w) (hr0 : Kd.C (Kd.int .u8) w0 A0 l0.length l0) (hc0 : l0.length ≤ c0) (h : spec_l1New.f k l0 = some (r1, r2, r3)) :
  Calls Try.prog 104 #[.slice A0 l0.length c0] w fun e w' => ∃ g_ : Nat, e = .returned (.pointer (some ⟨g_, 0, none⟩)) ∧ IsS170 w0 w' g_ r1 r2 r3 ∧ Below w0.heap.size w0 w' ∧ Below w.heap.size w w' := by
 have hu170 := Try.underlying170
 have HR0 := zA hr0
 have HC0 := zA hc0
 clear hr0 hc0
 have HBW := zA (Below.refl w.heap.size w)
 have HW0 := zA hB.size
 have HB := zA hB
 clear hB
 unfold spec_l1New.f at h
 have H := h
 clear h
 have HC2 := zA H
 clear H
 go_enter Try.func104, Try.ntmps104
 go_upto_region 0 with (fail)
 have H := HC2.out
 clear HC2
 have HC3 := zA H
 clear H
 go_upto_region 1 with (fail)
 have H := HC3.out
 clear HC3
 have HC4 := zA H
 clear H
 go_upto_region 2 with (fail)
 have H := HC4.out
 clear HC4
 have H' := zA H
 clear H
 go_wp2
 go_loopg [3, 4] k (fun kq v3 v4 w' => ∃ (x3_1 : Int) (x4_1 : Int), v3 = .int .i64 x3_1 ∧ v4 = .int .i64 x4_1 ∧ Aside0 (spec_l1New.l0 kq l0 x3_1 x4_1 = some (r1, r2, r3)) ∧ Aside0 (kq ≤ k) ∧ Aside0 (Below w.heap.size w w') ∧ Aside0 (Below w0.heap.size w0 w'))
 case atStart => exact ⟨(wrap64 (762762 + (l0.length : Int))), (0), zq25, zq25, H', ⟨Nat.le_refl _⟩, ⟨zq103⟩, ⟨zq0⟩⟩
 case round =>
  clear H'
  try clear c1
  try clear p2
  obtain ⟨x3_1, x4_1, rfl, rfl, HA, HK1, HBW, HB⟩ := hrel
  cases gk with
  | zero => exact absurd HA.out (by simp [spec_l1New.l0])
  | succ k1 =>
   have H := HA.out
   clear HA
   simp only [spec_l1New.l0] at H
   have HC5 := zA H
   clear H
   go_upto_region 3 with (fail)
   have H := HC5.out
   clear HC5
   by_cases c6 : x4_1 < (l0.length : Int)
   ·rw [if_pos c6] at H
    have c6b0 : decide (x4_1 < (l0.length : Int)) = true := decide_eq_true c6
    clear c6
    by_cases c7 : x4_1 < 4000
    ·rw [if_pos c7] at H
     have c7b0 : decide (x4_1 < 4000) = true := decide_eq_true c7
     clear c7
     have HC8 := zA H
     clear H
     go_upto_region 5 with (fail)
     have H := HC8.out
     clear HC8
     obtain ⟨c9, H⟩ := zN H
     have c9b0 : decide (0 ≤ x4_1) = true := decide_eq_true c9
     clear c9
     have HC10 := zA H
     clear H
     have p344 : 0 ≤ (x4_1 : Int) := of_decide_eq_true zq17
     have q344 : x4_1 < (l0.length : Int) := of_decide_eq_true zq17
     obtain ⟨ad344, e344, hx344_0⟩ := Kd.at_int HR0.out x4_1 p344 q344
     cases e344
     replace hx344_0 := pw_cell_below HB.out hx344_0
     replace p344 := eq_true p344
     replace q344 := eq_true q344
     go_upto_region 4 with (fail)
     have H := HC10.out
     clear HC10
     have H' := zA H
     clear H
     go_wp2
     go_roundg k1
     case measure => have := HK1.out; omega
     case rel => exact ⟨(Go.bits .and .i64 (wrap64 ((wrap64 ((wrap64 (x3_1 * 137)) + (wrap64 (rd l0 x4_1)))) + 11)) 1073741823), (wrap64 (x4_1 + 1)), zq25, zq25, H', ⟨zq190⟩, ⟨zq103⟩, ⟨zq0⟩⟩
    ·rw [if_neg c7] at H
     have c7b0 : decide (x4_1 < 4000) = false := decide_eq_false c7
     clear c7
     have HC11 := zA H
     clear H
     go_upto_region 6 with (fail)
     have H := HC11.out
     clear HC11
     simp only [Option.some.injEq, Prod.mk.injEq] at H
     obtain ⟨rfl, rfl, rfl⟩ := H
     go_wp2_with (first | ((with_reducible refine gate_dst (N := 31) rfl ?_); refine box_event ?hg (N := 31) ?hd (cs := #[.slice A0 l0.length c0, .int .i64 0, .int .i64 x3_1]) (t := 170) ?hr ?_; (case hd => rfl); (case hg => rfl); (case hr => first | (go_simp; done) | (go_simp; rfl)); intro gb345 hg w12 hbox hb; replace HB := zA (below_step zq0 hb); have BK345 := zA (hbox); have GW345 := zA ((zq126 : w.heap.size ≤ gb345)); have GE345 := zA ((Nat.le_trans HW0.out (zq126 : w.heap.size ≤ gb345) : w0.heap.size ≤ gb345)); replace HBW := zA (below_step HBW.out hb); clear hb hbox hg))
     go_ret
     exact ⟨_, rfl, (show IsS170 w0 _ gb345 l0 0 x3_1 from ⟨_, _, (by (with_reducible repeat (first | refine blk_drewN ?_ _ | refine blk_drew ?_ | refine blk_alloc ?_ _)); exact BK345.out), GE345.out, ⟨HR0.out, HC0.out⟩⟩), (by repeat (first | (with_reducible first | exact HB.out | apply below_alloc | apply pw_below_drewN | apply below_drew1 | refine below_set ?_ GE345.out) | exact HB.out)), (by repeat (first | (with_reducible first | exact HBW.out | apply below_alloc | apply pw_below_drewN | apply below_drew1 | refine below_set ?_ GW345.out) | exact HBW.out))⟩
   ·rw [if_neg c6] at H
    have c6b0 : decide (x4_1 < (l0.length : Int)) = false := decide_eq_false c6
    clear c6
    have HC13 := zA H
    clear H
    go_upto_region 6 with (fail)
    have H := HC13.out
    clear HC13
    simp only [Option.some.injEq, Prod.mk.injEq] at H
    obtain ⟨rfl, rfl, rfl⟩ := H
    go_wp2_with (first | ((with_reducible refine gate_dst (N := 31) rfl ?_); refine box_event ?hg (N := 31) ?hd (cs := #[.slice A0 l0.length c0, .int .i64 0, .int .i64 x3_1]) (t := 170) ?hr ?_; (case hd => rfl); (case hg => rfl); (case hr => first | (go_simp; done) | (go_simp; rfl)); intro gb346 hg w14 hbox hb; replace HB := zA (below_step zq0 hb); have BK346 := zA (hbox); have GW346 := zA ((zq126 : w.heap.size ≤ gb346)); have GE346 := zA ((Nat.le_trans HW0.out (zq126 : w.heap.size ≤ gb346) : w0.heap.size ≤ gb346)); replace HBW := zA (below_step HBW.out hb); clear hb hbox hg))
    go_ret
    exact ⟨_, rfl, (show IsS170 w0 _ gb346 l0 0 x3_1 from ⟨_, _, (by (with_reducible repeat (first | refine blk_drewN ?_ _ | refine blk_drew ?_ | refine blk_alloc ?_ _)); exact BK346.out), GE346.out, ⟨HR0.out, HC0.out⟩⟩), (by repeat (first | (with_reducible first | exact HB.out | apply below_alloc | apply pw_below_drewN | apply below_drew1 | refine below_set ?_ GE346.out) | exact HB.out)), (by repeat (first | (with_reducible first | exact HBW.out | apply below_alloc | apply pw_below_drewN | apply below_drew1 | refine below_set ?_ GW346.out) | exact HBW.out))⟩

/-! ### spec_l1Byte: function 184 -/
def spec_l1Byte.f (s0_0 : List Int) (s0_1 : Int) (s0_2 : Int) : Option (Int × Int × Int) := if s0_1 < (s0_0.length : Int) then (if 0 ≤ s0_1 then (some (Go.bits .and .i64 (wrap64 ((Go.bits .and .i64 (Go.bits .xor .i64 ((wrap64 ((wrap64 (s0_2 * 6364136223846793005)) + 1442695040888963407)) / 8589934592) ((wrap64 ((wrap64 (s0_2 * 6364136223846793005)) + 1442695040888963407)) / 140737488355328)) 255) + (wrap64 (rd s0_0 s0_1)))) 255, wrap64 (s0_1 + 1), wrap64 ((wrap64 (s0_2 * 6364136223846793005)) + 1442695040888963407))) else (none)) else (some (Go.bits .and .i64 (Go.bits .xor .i64 ((wrap64 ((wrap64 (s0_2 * 6364136223846793005)) + 1442695040888963407)) / 8589934592) ((wrap64 ((wrap64 (s0_2 * 6364136223846793005)) + 1442695040888963407)) / 140737488355328)) 255, s0_1, wrap64 ((wrap64 (s0_2 * 6364136223846793005)) + 1442695040888963407)))
set_option maxHeartbeats 8000000 in
set_option maxRecDepth 100000 in
theorem spec_l1Byte.calls (g : Nat) (s0_0 : List Int) (s0_1 : Int) (s0_2 : Int) (r1 : Int) (r2 : Int) (r3 : Int) (w0 w : World) (hI : IsS170 w0 w g s0_0 s0_1 s0_2) (hB : Below w0.heap.size w0 w) (h : spec_l1Byte.f s0_0 s0_1 s0_2 = some (r1, r2, r3)) :
  Calls Try.prog 184 #[.pointer (some ⟨g, 0, none⟩)] w fun e w' => e = .returned (.int .i64 r1) ∧ IsS170 w0 w' g s0_0 r2 r3 ∧ Below w0.heap.size w0 w' ∧ KeepBut w w' g none := by
 have HI0 := zA hI
 have HK := zA (KeepBut.refl w g none)
 have HL := zA hB.size
 clear hI
 have HW0 := zA hB.size
 have HB := zA hB
 clear hB
 unfold spec_l1Byte.f at h
 have H := h
 clear h
 by_cases c2 : s0_1 < (s0_0.length : Int)
 ·rw [if_pos c2] at H
  have c2b0 : decide (s0_1 < (s0_0.length : Int)) = true := decide_eq_true c2
  clear c2
  obtain ⟨c3, H⟩ := zN H
  have c3b0 : decide (0 ≤ s0_1) = true := decide_eq_true c3
  clear c3
  simp only [Option.some.injEq, Prod.mk.injEq] at H
  obtain ⟨rfl, rfl, rfl⟩ := H
  obtain ⟨ASz4_0, cSz4_0, HGz4, hgz4, ⟨HSz4_0, HSKz4_0⟩⟩ := HI0.out
  have HSCz4_0 := zA HSKz4_0
  clear HSKz4_0
  have hcz4_0 := cellS170_0 HGz4
  have hcz4_1 := cellS170_1 HGz4
  have hcz4_2 := cellS170_2 HGz4
  have hfz4_1 := blk_frozen HGz4 1
  have hfz4_2 := blk_frozen HGz4 2
  clear HGz4 hgz4
  have p347 : 0 ≤ (s0_1 : Int) := of_decide_eq_true zq17
  have q347 : s0_1 < (s0_0.length : Int) := of_decide_eq_true zq17
  obtain ⟨ad347, e347, hx347_0⟩ := Kd.at_int HSz4_0 s0_1 p347 q347
  cases e347
  have hn347_0 : ad347.block ≠ g := Nat.ne_of_lt (Nat.lt_of_lt_of_le (by have := World.block_lt_of_cell? _ _ hx347_0; first | rwa [add_block] at this | exact this) (IsS170.ge HI0.out))
  replace hx347_0 := pw_cell_below HB.out hx347_0
  replace hx347_0 := (cell_far (p := ⟨g, 2, none⟩) (by first | (rw [add_block]; exact hn347_0) | (show (Addr.add _ _).block ≠ _; rw [add_block]; exact hn347_0) | exact hn347_0) (.int .i64 (wrap64 ((wrap64 (s0_2 * 6364136223846793005)) + 1442695040888963407)))).trans hx347_0
  (try have hy347_0 := fun (n_ : Nat) => (show (((w.drewN n_).setCell ⟨g, 2, none⟩ (.int .i64 (wrap64 ((wrap64 (s0_2 * 6364136223846793005)) + 1442695040888963407))))).cell? _ = some _ from hx347_0))
  clear hn347_0
  replace p347 := eq_true p347
  replace q347 := eq_true q347
  go_enter Try.func184, Try.ntmps184
  go_wp2
  repeat (go_quiet (fail); try go_wp2)
  go_ret
  exact ⟨zq5, zq13, zq12, zq3⟩
 ·rw [if_neg c2] at H
  have c2b0 : decide (s0_1 < (s0_0.length : Int)) = false := decide_eq_false c2
  clear c2
  simp only [Option.some.injEq, Prod.mk.injEq] at H
  obtain ⟨rfl, rfl, rfl⟩ := H
  obtain ⟨ASz5_0, cSz5_0, HGz5, hgz5, ⟨HSz5_0, HSKz5_0⟩⟩ := HI0.out
  have HSCz5_0 := zA HSKz5_0
  clear HSKz5_0
  have hcz5_0 := cellS170_0 HGz5
  have hcz5_1 := cellS170_1 HGz5
  have hcz5_2 := cellS170_2 HGz5
  have hfz5_1 := blk_frozen HGz5 1
  have hfz5_2 := blk_frozen HGz5 2
  clear HGz5 hgz5
  go_enter Try.func184, Try.ntmps184
  go_wp2
  repeat (go_quiet (fail); try go_wp2)
  go_ret
  exact ⟨zq5, zq13, zq12, zq3⟩

end Go.Proofs.Ytkcgghgkmgbphaa.PFnFrames
