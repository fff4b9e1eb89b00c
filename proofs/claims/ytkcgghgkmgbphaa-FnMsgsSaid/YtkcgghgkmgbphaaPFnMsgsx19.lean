-- WRITTEN BY a turned copy of the kit's printer (wip/patch_print.py), for this claim
import Derived.Test.YtkcgghgkmgbphaaPFnMsgsx0
import Derived.Test.YtkcgghgkmgbphaaPFnMsgsx15
import Derived.Test.YtkcgghgkmgbphaaPFnMsgsx17
import Derived.Test.YtkcgghgkmgbphaaPFnMsgsx18
namespace Go.Proofs.Ytkcgghgkmgbphaa.PFnMsgs
open Go.RowKit Go.Proofs.YtkcgghgkmgbphaaW.PrintWords Go.Proofs.YtkcgghgkmgbphaaW.PrintLast Go.Proofs.YtkcgghgkmgbphaaW.PrintMore
attribute [local go_sem] max2_int min2_int max_two min_two max_three min_three max_four min_four   -- for this text's walks alone
set_option linter.unusedVariables false
set_option linter.unusedSimpArgs false
set_option maxHeartbeats 8000000
set_option maxRecDepth 100000

attribute [local go_sem] cell_setCell_m
/-! ### spec_l4Any: function 105 -/
def spec_l4Any.l0 : Nat → List Int → Int → Int → Int → Int → Int → Int → List (S116) → Option (Int × Int × Int × Int × (List (S116)) × Int × Int)
 | 0, _, _, _, _, _, _, _, _ => none
 | k + 1, x1000, x1001, x1002, x671000, x671001, x671002, x671003, x671004 => (spec_l1Below.f x1000 x1001 x1002 2).bind fun bt699 => (if (x671004.length : Int) < (wrap64 (10 + bt699.1)) then ((spec_l2Draw.f k x1000 bt699.2.1 bt699.2.2).bind fun bt702 => (if x671004.length < 1759218604441 then (spec_l4Any.l0 k x1000 bt702.2.1 bt702.2.2 x671000 x671001 x671002 x671003 (x671004 ++ [(⟨bt702.1, (⟨4, 0, (⟨#[116, 119, 101, 110, 116, 121, 45, 98, 121, 116, 101, 115, 45, 111, 102, 45, 116, 101, 120, 116]⟩ : ByteArray), ([] : List Int)⟩ : S76)⟩ : S116)])) else (none))) else (some (x671000, x671001, x671002, x671003, x671004, bt699.2.1, bt699.2.2)))
def spec_l4Any.f (k : Nat) (s0_0 : List Int) (s0_1 : Int) (s0_2 : Int) : Option (Int × Int × Int × Int × (List (S116)) × Int × Int) := (spec_l4Draw.f k s0_0 s0_1 s0_2).bind fun bt661 => ((spec_l1Below.f s0_0 bt661.2.2.2.2.2.1 bt661.2.2.2.2.2.2 12).bind fun bt671 => (if bt671.1 = 0 then ((spec_l1Below.f s0_0 bt671.2.1 bt671.2.2 256).bind fun bt674 => (some (bt674.1, bt661.2.1, bt661.2.2.1, bt661.2.2.2.1, bt661.2.2.2.2.1, bt674.2.1, bt674.2.2))) else (if bt671.1 = 1 then ((spec_l1Int.f s0_0 bt671.2.1 bt671.2.2 (([(-1), 1, 1000, 1001] : List Int))).bind fun bt680 => (some (bt661.1, bt661.2.1, bt680.1, bt661.2.2.2.1, bt661.2.2.2.2.1, bt680.2.1, bt680.2.2))) else (if bt671.1 = 2 then ((spec_l2Any.f k s0_0 bt671.2.1 bt671.2.2).bind fun bt683 => ((spec_l3Any.f k s0_0 bt683.2.1 bt683.2.2).bind fun bt688 => (if bt661.2.2.2.2.1.length < 1759218604441 then (some (bt661.1, bt661.2.1, bt661.2.2.1, bt661.2.2.2.1, (bt661.2.2.2.2.1 ++ [(⟨bt683.1, (⟨bt688.1, bt688.2.1, bt688.2.2.1, bt688.2.2.2.1⟩ : S76)⟩ : S116)]), bt688.2.2.2.2.1, bt688.2.2.2.2.2)) else (none)))) else (if bt671.1 = 3 then (spec_l4Any.l0 k s0_0 bt671.2.1 bt671.2.2 bt661.1 bt661.2.1 bt661.2.2.1 bt661.2.2.2.1 bt661.2.2.2.2.1) else (some (bt661.1, bt661.2.1, bt661.2.2.1, bt661.2.2.2.1, bt661.2.2.2.2.1, bt671.2.1, bt671.2.2)))))))
theorem spec_l4Any.mono_l : ∀ k, (∀ y0 y1 y2 y3 y4 y5 y6 y7, LeO (spec_l4Any.l0 k y0 y1 y2 y3 y4 y5 y6 y7) (spec_l4Any.l0 (k + 1) y0 y1 y2 y3 y4 y5 y6 y7))
 | 0 => fun _ _ _ _ _ _ _ _ r h => by simp [spec_l4Any.l0] at h
 | k + 1 => by
  have ih0 := spec_l4Any.mono_l k
  ·intro y0 y1 y2 y3 y4 y5 y6 y7
   unfold spec_l4Any.l0
   have m0_ := @spec_l2Any.mono
   have m1_ := @spec_l2Draw.mono
   have m2_ := @spec_l3Any.mono
   have m3_ := @spec_l4Draw.mono
   exact zR
theorem spec_l4Any.mono : ∀ a0 a1 a2 k, LeO (spec_l4Any.f k a0 a1 a2) (spec_l4Any.f (k + 1) a0 a1 a2) := by
 intro a0 a1 a2 k
 have ih0 := spec_l4Any.mono_l k
 unfold spec_l4Any.f
 have m0_ := @spec_l2Any.mono
 have m1_ := @spec_l2Draw.mono
 have m2_ := @spec_l3Any.mono
 have m3_ := @spec_l4Draw.mono
 exact zR
def spec_l4Any.T8 : Bool × List (List Nat × List Nat) := (true, [([], []), ([0], [0]), ([], []), ([2], [2]), ([], []), ([4, 3], [4]), ([3, 5], [3, 5]), ([6], [6]), ([1, 7, 5], [1, 7]), ([0, 1, 2, 3, 4, 5, 6, 7, 8], []), ([9, 8, 8, 0, 1, 2, 3, 4, 5, 6, 7, 8], [8, 9])])
def spec_l4Any.B8 : List Nat := [0, 1, 0, 4, 0, 28, 60, 124, 255, 511, 1023]
theorem spec_l4Any.tab8 : rtab .any (opsOf Try.f105 8) = spec_l4Any.T8 := by kernel_rfl
theorem spec_l4Any.bits8 : waitsOk spec_l4Any.T8.2 spec_l4Any.B8 = true := by kernel_rfl
def spec_l4Any.T11 : Bool × List (List Nat × List Nat) := (true, [([], []), ([0], [0]), ([], []), ([2], [2]), ([], []), ([3, 4], [3, 4]), ([5], [5]), ([1, 6, 3], [1, 6]), ([0, 1, 2, 3, 4, 5, 6, 7], []), ([8, 7, 7, 0, 1, 2, 3, 4, 5, 6, 7], [7, 8])])
def spec_l4Any.B11 : List Nat := [0, 1, 0, 4, 0, 28, 60, 127, 255, 511]
theorem spec_l4Any.tab11 : rtab .any (opsOf Try.f105 11) = spec_l4Any.T11 := by kernel_rfl
theorem spec_l4Any.bits11 : waitsOk spec_l4Any.T11.2 spec_l4Any.B11 = true := by kernel_rfl
theorem spec_l4Any.calls (k : Nat) (g : Nat) (s0_0 : List Int) (s0_1 : Int) (s0_2 : Int) (r1 : Int) (r2 : Int) (r3 : Int) (r4 : Int) (r5 : List (S116)) (r6 : Int) (r7 : Int) (w0 w : World) (hI : IsS170 w0 w g s0_0 s0_1 s0_2) (hB : Below w0.heap.size w0 w) (h : spec_l4Any.f k s0_0 s0_1 s0_2 = some (r1, r2, r3, r4, r5, r6, r7)) :
  Calls Try.prog 105 #[.pointer (some ⟨g, 0, none⟩)] w fun e w' => ∃ v4_ : Value, e = .returned (.agg #[.int .i64 r1, .int .i64 r2, .int .i64 r3, .int .i64 r4, v4_]) ∧ Kd.S k116 116 w' w.heap.size (fun _ => True) v4_ r5 ∧ IsS170 w0 w' g s0_0 r6 r7 ∧ Below w0.heap.size w0 w' ∧ KeepBut w w' g none := by
 have hu26 := Try.underlying26
 have hu116 := Try.underlying116
 have hu76 := Try.underlying76
 have HI0 := zA hI
 have HK := zA (KeepBut.refl w g none)
 have HL := zA hB.size
 clear hI
 have HW0 := zA hB.size
 have HB := zA hB
 clear hB
 unfold spec_l4Any.f at h
 have H := zA h
 clear h
 go_enter Try.func105, Try.ntmps105
 go_upto_region 0 with fail
 go_upto_region 1 with (first | ((with_reducible refine gate_dst (N := 2) rfl ?_); refine box_event ?hg (N := 2) ?hd (cs := #[.int .i64 0, .int .i64 0, .int .i64 0, .int .i64 0, .slice none 0 0]) (t := 26) ?hr ?_; (case hd => rfl); (case hg => rfl); (case hr => exact zgs); intro gb660 hg w4 hbox hb; replace HB := zA (below_step zq6 hb); have BK660 := zA (hbox); have GW660 := zA ((zq77 : w.heap.size ≤ gb660)); have GE660 := zA ((Nat.le_trans HW0.out (zq77 : w.heap.size ≤ gb660) : w0.heap.size ≤ gb660)); replace HK := zA (KeepBut.trans zq2 (KeepBut.of_below hb g none) (.inl rfl)); have NB0_660 := zA ((zq122 : g ≠ gb660)); have NB660_0 := zA ((zq123 : gb660 ≠ g)); replace HI0 := zA (IsS170.below zq3 hb); clear hb hbox hg))
 (try simp only [zvs])
 replace H := zB H; obtain ⟨⟨t661, t662, t663, t664, t665, t668, t669⟩, A5, H⟩ := H
 try dsimp only at H
 go_upto_region 2 with (first | ((with_reducible refine zg111 rfl ?_); refine zl111 (some 5) #[.pointer (some ⟨g, 0, none⟩)] ?_; (with_reducible refine (spec_l4Draw.calls k g s0_0 s0_1 s0_2 t661 t662 t663 t664 t665 t668 t669 w0 _ ?side1 ?side2 A5.out).mono ?_); (case side1 => exact zq142); (case side2 => exact zq249); rintro e w7 ⟨v666, rfl, ho0, hi, hb, hk⟩; refine ⟨_, rfl, ?_⟩; replace BK660 := zA (zkb hk BK660.out NB660_0.out); have HO667 := zA (Kd.S_lower ho0 (keep_size (w := w) (g := g) (row := none) zq135)); replace HK := zA (KeepBut.trans zq135 hk (.inl rfl)); replace HB := zA (hb); replace HI0 := zA (hi); clear hb hk hi ho0) | ((with_reducible refine gate_dst (N := 3) rfl ?_); refine box_event ?hg (N := 3) ?hd (cs := #[.int .i64 0, .int .i64 0, .int .i64 0, .int .i64 0, .slice none 0 0]) (t := 26) ?hr ?_; (case hd => rfl); (case hg => rfl); (case hr => exact zgs); intro gb670 hg w8 hbox hb; replace HO667 := zA (Kd.S_below (zsk HO667.out) hb); replace HB := zA (below_step zq249 hb); have BK670 := zA (hbox); have GW670 := zA ((zq229 : w.heap.size ≤ gb670)); have GE670 := zA ((Nat.le_trans HW0.out (zq229 : w.heap.size ≤ gb670) : w0.heap.size ≤ gb670)); replace HK := zA (KeepBut.trans zq135 (KeepBut.of_below hb g none) (.inl rfl)); have NB660_670 := zA ((by rw [hg]; exact Nat.ne_of_lt (blk_lt (g := gb660) (o := .cells #[.int .i64 0, .int .i64 0, .int .i64 0, .int .i64 0, .slice none 0 0] 26 (0, 0)) (zbk BK660.out)) : gb660 ≠ gb670)); have NB670_660 := zA ((by rw [hg]; exact Nat.ne_of_gt (blk_lt (g := gb660) (o := .cells #[.int .i64 0, .int .i64 0, .int .i64 0, .int .i64 0, .slice none 0 0] 26 (0, 0)) (zbk BK660.out)) : gb670 ≠ gb660)); replace BK660 := zA (zbb BK660.out hb); have NB0_670 := zA ((by rw [hg]; exact Nat.ne_of_lt (IsS170.lt (show IsS170 w0 _ g s0_0 t668 t669 from zq142)) : g ≠ gb670)); have NB670_0 := zA ((by rw [hg]; exact Nat.ne_of_gt (IsS170.lt (show IsS170 w0 _ g s0_0 t668 t669 from zq142)) : gb670 ≠ g)); replace HI0 := zA (IsS170.below zq142 hb); clear hb hbox hg; have hn9 := zn NB670_660; have hn10 := zn NB670_0; have hz11 := zc5 BK670.out; obtain ⟨Ao12, co12, eo12⟩ := Kd.S_slice HO667.out; subst eo12))
 (try simp only [zvs])
 replace H := zB H; obtain ⟨⟨t671, t672, t673⟩, A13, H⟩ := H
 try dsimp only at H
 go_upto_region 3 with (first | ((with_reducible refine zg131 rfl ?_); refine zl131 (some 7) #[.pointer (some ⟨g, 0, none⟩), .int .i64 12] ?_; (with_reducible refine (spec_l1Below.calls g s0_0 t668 t669 12 t671 t672 t673 w0 _ ?side1 ?side2 A13.out).mono ?_); (case side1 => exact zq9); (case side2 => exact zq26); rintro e w15 ⟨rfl, hi, hb, hk⟩; refine ⟨_, rfl, ?_⟩; replace BK660 := zA (KeepBut.blk hk (g' := gb660) (o := .cells #[.int .i64 0, .int .i64 0, .int .i64 0, .int .i64 0, .slice none 0 0] 26 (0, 0)) (zbf BK660.out) NB660_0.out zq219); replace HO667 := zA (Kd.S_mono (Kd.S_keep (IsS170.apartS (show IsS170 w0 _ g s0_0 t668 t669 from zq9) (by (with_reducible repeat (first | apply Kd.S_alloc | apply Kd.S_drewN | apply Kd.S_drew)); exact (Kd.S_mono (Kd.S_far (p := ⟨gb670, 4, none⟩) (Kd.S_far (p := ⟨gb670, 3, none⟩) (Kd.S_far (p := ⟨gb670, 2, none⟩) (Kd.S_far (p := ⟨gb670, 1, none⟩) (Kd.S_far (p := ⟨gb670, 0, none⟩) (Kd.S_types HO667.out BK670.out zq52) (fun _ hk => hk.2) (.int .i64 t661)) (fun _ hk => hk.2) (.int .i64 t662)) (fun _ hk => hk.2) (.int .i64 t663)) (fun _ hk => hk.2) (.int .i64 t664)) (fun _ hk => hk.2) (.slice Ao12 t665.length co12)) (fun _ h_ => h_.1))) zq52) hk (fun _ h => h.2)) (fun _ h => h.1)); replace BK670 := zA (KeepBut.blk hk (g' := gb670) (o := .cells #[.int .i64 t661, .int .i64 t662, .int .i64 t663, .int .i64 t664, .slice Ao12 t665.length co12] 26 (0, 0)) (zbp BK670.out) NB670_0.out zq219); replace HK := zA (KeepBut.trans zq16 hk (.inl rfl)); replace HB := zA (hb); replace HI0 := zA (hi); clear hb hk hi))
 (try simp only [zvs])
 replace H := zP H; rcases H with ⟨c16, H⟩ | ⟨c16, H⟩
 ·have c16b0 : (t671 == 0) = true := beq_iff_eq.mpr c16
  have c16b1 : (t671 != 0) = false := bne_eq_false_iff_eq.mpr c16
  clear c16
  go_upto_region 4 with fail
  replace H := zB H; obtain ⟨⟨t674, t675, t676⟩, A18, H⟩ := H
  try dsimp only at H
  go_upto_region 12 with (first | ((with_reducible refine zg131 rfl ?_); refine zl131 (some 11) #[.pointer (some ⟨g, 0, none⟩), .int .i64 256] ?_; (with_reducible refine (spec_l1Below.calls g s0_0 t672 t673 256 t674 t675 t676 w0 _ ?side1 ?side2 A18.out).mono ?_); (case side1 => exact zq9); (case side2 => exact zq26); rintro e w20 ⟨rfl, hi, hb, hk⟩; refine ⟨_, rfl, ?_⟩; replace BK660 := zA (zkb hk BK660.out NB660_0.out); replace HO667 := zA (Kd.S_mono (Kd.S_keep (IsS170.apartS (show IsS170 w0 _ g s0_0 t672 t673 from zq9) (zsk HO667.out) zq52) hk (fun _ h => h.2)) (fun _ h => h.1)); replace BK670 := zA (zkb hk BK670.out NB670_0.out); replace HK := zA (KeepBut.trans zq16 hk (.inl rfl)); replace HB := zA (hb); replace HI0 := zA (hi); clear hb hk hi; have hn21 := zn NB670_660; have hn22 := zn NB670_0; have hz23 := zc5 BK670.out))
  (try simp only [zvs])
  obtain ⟨rfl, rfl, rfl, rfl, rfl, rfl, rfl⟩ := zt7 H
  have hn24 := zn NB670_660
  have hn25 := zn NB670_0
  have hz26 := zc5 BK670.out
  have hn27 := zn NB660_0
  have hz28 := zc5 BK660.out
  go_wp2
  refine bodyPost_ret (results_cell_row rfl _ _ gb660 26 #[.int .i64 t674, .int .i64 t662, .int .i64 t663, .int .i64 t664, .slice Ao12 t665.length co12] (0, 0) _ rfl (zbp BK660.out) Try.underlying26 rfl (by kernel_rfl)) rfl ?_
  exact ⟨_, zq1, (by (with_reducible repeat (first | apply Kd.S_alloc | apply Kd.S_drewN | apply Kd.S_drew)); exact Kd.S_mono (Kd.S_far (p := ⟨gb660, 4, none⟩) (Kd.S_far (p := ⟨gb660, 3, none⟩) (Kd.S_far (p := ⟨gb660, 2, none⟩) (Kd.S_far (p := ⟨gb660, 1, none⟩) (Kd.S_far (p := ⟨gb660, 0, none⟩) (Kd.S_far (p := ⟨gb670, 0, none⟩) (Kd.S_types (Kd.S_types HO667.out BK670.out zq52) BK660.out zq52) (fun _ hk => hk.1.2) (.int .i64 t674)) (fun _ hk => hk.2) (.int .i64 t674)) (fun _ hk => hk.2) (.int .i64 t662)) (fun _ hk => hk.2) (.int .i64 t663)) (fun _ hk => hk.2) (.int .i64 t664)) (fun _ hk => hk.2) (.slice Ao12 t665.length co12)) (fun _ hk => trivial)), zq9, zq26, zq16⟩
 have c16b0 : (t671 == 0) = false := beq_eq_false_iff_ne.mpr c16
 have c16b1 : (t671 != 0) = true := bne_iff_ne.mpr c16
 go_upto_region 5 with fail
 replace H := zP H; rcases H with ⟨c30, H⟩ | ⟨c30, H⟩
 ·have c30b0 : (t671 == 1) = true := beq_iff_eq.mpr c30
  have c30b1 : (t671 != 1) = false := bne_eq_false_iff_eq.mpr c30
  clear c30
  go_upto_region 6 with fail
  obtain ⟨y677, hy677⟩ : ∃ y_ : List Int, y_ = (([(-1), 1, 1000, 1001] : List Int)) := ⟨_, rfl⟩
  rw [← hy677] at H
  have Ny677 := zA hy677
  clear hy677
  replace H := zB H; obtain ⟨⟨t680, t681, t682⟩, A32, H⟩ := H
  try dsimp only at H
  go_upto_region 12 with (first | ((with_reducible refine gate_dst (N := 16) rfl ?_); refine Kd.R_lit (Kd.int .i64) _ 3 ?hg (N := 16) ?hd (xs := ([(-1), 1, 1000, 1001] : List Int)) (inner := [.int .i64 (-1), .int .i64 1, .int .i64 1000, .int .i64 1001]) (ok := fun _ => True) (okp := fun _ => True) ?hr ?hp (fun _ hk => hk) trivial (Below.refl _ _) (Nat.le_refl _) zq219 ?_; (case hd => rfl); (case hg => rfl); (case hr => exact zgs); (case hp => exact (Reps.one (show Kd.M (Kd.int .i64) _ _ _ (-1) [.int .i64 (-1)] from rfl) (Reps.one (show Kd.M (Kd.int .i64) _ _ _ 1 [.int .i64 1] from rfl) (Reps.one (show Kd.M (Kd.int .i64) _ _ _ 1000 [.int .i64 1000] from rfl) (Reps.one (show Kd.M (Kd.int .i64) _ _ _ 1001 [.int .i64 1001] from rfl) (Reps.none _ _)))))); intro v678 w34 ho35 hb hg_ hnew_; clear hg_ hnew_; (first | rw [← Ny677.out] at ho35 | (simp only [Int.reduceToNat] at ho35; rw [← Ny677.out] at ho35)); replace HO667 := zA (Kd.S_elder' (zsk HO667.out) (Kd.R_base ho35) hb); have HO679 := zA (Kd.R_lower ho35 (keep_size (w := w) (g := g) (row := none) zq16)); replace BK660 := zA (zbb BK660.out hb); replace BK670 := zA (zbb BK670.out hb); replace HK := zA (KeepBut.trans zq16 (KeepBut.of_below hb g none) (.inl rfl)); replace HB := zA (below_step zq26 hb); replace HI0 := zA (IsS170.below zq9 hb); clear hb ho35; obtain ⟨Ao36, co36, eo36⟩ := Kd.R_slice HO679.out; subst eo36) | ((with_reducible refine zg140 rfl ?_); refine zl140 (some 17) #[.pointer (some ⟨g, 0, none⟩), .slice Ao36 y677.length co36] ?_; (with_reducible refine (spec_l1Int.calls g s0_0 t672 t673 _ _ y677 t680 t681 t682 w0 _ ?side1 ?side2 ?side3 ?side4 ?side5 A32.out).mono ?_); (case side1 => exact zq9); (case side2 => exact zq26); (case side3 => exact (zck (Kd.R_reads' HO679.out).2.2)); (case side4 => exact (Kd.R_reads' HO679.out).2.1); (case side5 => exact far_slice (IsS170.own_ne HI0.out HO679.out zq52)); rintro e w37 ⟨rfl, hi, hb, hk⟩; refine ⟨_, rfl, ?_⟩; replace BK660 := zA (zkb hk BK660.out NB660_0.out); replace HO667 := zA (Kd.S_mono (Kd.S_keep (IsS170.apartS (show IsS170 w0 _ g s0_0 t672 t673 from zq9) (zsk HO667.out) zq52) hk (fun _ h => h.2)) (fun _ h => h.1)); replace BK670 := zA (zkb hk BK670.out NB670_0.out); replace HO679 := zA (Kd.R_mono (Kd.R_keep (IsS170.apart (show IsS170 w0 _ g s0_0 t672 t673 from zq9) (zrk HO679.out) zq52) hk (fun _ h => h.2)) (fun _ h => h.1)); replace HK := zA (KeepBut.trans zq16 hk (.inl rfl)); replace HB := zA (hb); replace HI0 := zA (hi); clear hb hk hi; have hn38 := zn NB670_660; have hn39 := zn NB670_0; have hz40 := zc5 BK670.out))
  (try simp only [zvs])
  obtain ⟨rfl, rfl, rfl, rfl, rfl, rfl, rfl⟩ := zt7 H
  have hn41 := zn NB670_660
  have hn42 := zn NB670_0
  have hz43 := zc5 BK670.out
  have hn44 := zn NB660_0
  have hz45 := zc5 BK660.out
  go_wp2
  refine bodyPost_ret (results_cell_row rfl _ _ gb660 26 #[.int .i64 t661, .int .i64 t662, .int .i64 t680, .int .i64 t664, .slice Ao12 t665.length co12] (0, 0) _ rfl (zbp BK660.out) Try.underlying26 rfl (by kernel_rfl)) rfl ?_
  exact ⟨_, zq1, (by (with_reducible repeat (first | apply Kd.S_alloc | apply Kd.S_drewN | apply Kd.S_drew)); exact Kd.S_mono (Kd.S_far (p := ⟨gb660, 4, none⟩) (Kd.S_far (p := ⟨gb660, 3, none⟩) (Kd.S_far (p := ⟨gb660, 2, none⟩) (Kd.S_far (p := ⟨gb660, 1, none⟩) (Kd.S_far (p := ⟨gb660, 0, none⟩) (Kd.S_far (p := ⟨gb670, 2, none⟩) (Kd.S_types (Kd.S_types HO667.out BK670.out zq52) BK660.out zq52) (fun _ hk => hk.1.2) (.int .i64 t680)) (fun _ hk => hk.2) (.int .i64 t661)) (fun _ hk => hk.2) (.int .i64 t662)) (fun _ hk => hk.2) (.int .i64 t680)) (fun _ hk => hk.2) (.int .i64 t664)) (fun _ hk => hk.2) (.slice Ao12 t665.length co12)) (fun _ hk => trivial)), zq9, zq26, zq16⟩
 have c30b0 : (t671 == 1) = false := beq_eq_false_iff_ne.mpr c30
 have c30b1 : (t671 != 1) = true := bne_iff_ne.mpr c30
 go_upto_region 7 with fail
 replace H := zP H; rcases H with ⟨c47, H⟩ | ⟨c47, H⟩
 ·have c47b0 : (t671 == 2) = true := beq_iff_eq.mpr c47
  have c47b1 : (t671 != 2) = false := bne_eq_false_iff_eq.mpr c47
  clear c47
  go_upto_region 8 with fail
  replace H := zB H; obtain ⟨⟨t683, t686, t687⟩, A49, H⟩ := H
  try dsimp only at H
  replace H := zB H; obtain ⟨⟨t688, t689, t690, t691, t694, t695⟩, A50, H⟩ := H
  try dsimp only at H
  replace H := zN H; obtain ⟨c51, H⟩ := H
  have LMc51 := zA c51
  clear c51
  obtain ⟨y696, hy696⟩ : ∃ y_ : List (S116), y_ = (t665 ++ [(⟨t683, (⟨t688, t689, t690, t691⟩ : S76)⟩ : S116)]) := ⟨_, rfl⟩
  rw [← hy696] at H
  have Ny696 := zA hy696
  clear hy696
  try go_wp2
  replace HO667 := zA (Kd.S_drew HO667.out)
  replace BK660 := zA (blk_drew BK660.out)
  replace BK670 := zA (blk_drew BK670.out)
  replace HI0 := zA (IsS170.drew HI0.out)
  replace HK := zA (keep_drew HK.out)
  replace HB := zA (below_drew1 HB.out)
  refine start_ (n := 11) (S := fun w' => w'.cell? ⟨gb670, 0, none⟩ = some (.int .i64 t661) ∧ w'.cell? ⟨gb670, 1, none⟩ = some (.int .i64 t662) ∧ w'.cell? ⟨gb670, 2, none⟩ = some (.int .i64 t663) ∧ w'.cell? ⟨gb670, 3, none⟩ = some (.int .i64 t664) ∧ w'.cell? ⟨gb670, 4, none⟩ = some (.slice Ao12 t665.length co12)) (ds := [10]) (zv 11 0) (by kernel_rfl) rfl rfl (zd5 BK670.out) (fun hHeld => ?_); refine with_tabW spec_l4Any.tab8 spec_l4Any.bits8 (fun HT_ HW_ => ?_)
  generalize w15.drew = w53 at HO667 BK660 BK670 HI0 HK HB hHeld ⊢
  refine zyt 0 21 (zv 11 1) ?_
  refine zyt 2 23 (zv 11 5) ?_
  refine zyt 4 25 (zv 11 21) ?_
  refine take_ (i := 1) (N := some 22) (v := ?_) (a' := ?_) (zv 11 23) rfl rfl (take_ofW HT_.out HW_.out (by kernel_rfl)) (fun _ _ _ h => h) (Or.inl ⟨zq94, ?_⟩) hHeld ?_ ?_
  rotate_left
  ·rintro w' ⟨s0, s1, s2, s3, s4⟩
   go_simp
   with_reducible rfl
  rotate_left
  ·simp only [zvs, i64_w, i32_w]
   rfl
  refine one_ (i := 3) (N := some 24) (zv 11 31) rfl rfl (one_of HT_.out (by kernel_rfl)) zq52 (fun K hK => ?_)
  refine goes_ Try.func179 (by kernel_rfl) rfl #[.pointer (some ⟨g, 0, none⟩)] zq94 rfl rfl zq20 ?_
  with_reducible refine (spec_l2Any.calls k g s0_0 t672 t673 t683 t686 t687 w0 _ ?side1 ?side2 A49.out).mono ?_
  (case side1 => exact zq9)
  (case side2 => exact zq26)
  rintro e w54 ⟨v684, rfl, ho0, hi, hb, hk⟩
  refine ⟨_, rfl, ?_⟩
  replace BK660 := zA (zkb hk BK660.out NB660_0.out)
  replace HO667 := zA (Kd.S_mono (Kd.S_told (Kd.S_oldK (IsS170.apartS (show IsS170 w0 _ g s0_0 t672 t673 from zq9) (zsk HO667.out) zq52) hk) (Kd.R_base ho0)) (fun _ h_ => h_.1))
  replace BK670 := zA (zkb hk BK670.out NB670_0.out)
  have HO685 := zA (Kd.R_lower ho0 (keep_size (w := w) (g := g) (row := none) zq16))
  replace HK := zA (KeepBut.trans zq16 hk (.inl rfl))
  replace HB := zA (hb)
  replace HI0 := zA (hi)
  (try clear hb)
  (try clear hb2)
  (try clear hk)
  (try clear hi)
  (try clear ho0)
  refine hK.out _ _ (zd5 BK670.out) (fun hHeld => ?_)
  clear hK K
  refine norm_ (a' := ?_) ?_ ?_
  rotate_left
  ·show Act.put _ (some 24) _ = _
   simp only [zvs, i64_w, i32_w]
   rfl
  refine one_ (i := 5) (N := some 26) (zv 11 63) rfl rfl (one_of HT_.out (by kernel_rfl)) zq52 (fun K hK => ?_)
  refine goes_ Try.func167 (by kernel_rfl) rfl #[.pointer (some ⟨g, 0, none⟩)] zq94 rfl rfl zq20 ?_
  with_reducible refine (spec_l3Any.calls k g s0_0 t686 t687 t688 t689 t690 t691 t694 t695 w0 _ ?side1 ?side2 A50.out).mono ?_
  (case side1 => exact zq9)
  (case side2 => exact zq26)
  rintro e w55 ⟨v692, rfl, ho0, hi, hb, hk⟩
  refine ⟨_, rfl, ?_⟩
  replace BK660 := zA (zkb hk BK660.out NB660_0.out)
  replace HO667 := zA (Kd.S_mono (Kd.S_told (Kd.S_oldK (IsS170.apartS (show IsS170 w0 _ g s0_0 t686 t687 from zq9) (zsk HO667.out) zq52) hk) (Kd.R_base ho0)) (fun _ h_ => h_.1))
  replace BK670 := zA (zkb hk BK670.out NB670_0.out)
  have HO693 := zA (Kd.R_lower (Kd.R_new' ho0 (Kd.R_lt (zrk HO685.out))) (keep_size (w := w) (g := g) (row := none) zq16))
  replace HO685 := zA (Kd.R_mono (Kd.R_told (Kd.R_oldK (IsS170.apart (show IsS170 w0 _ g s0_0 t686 t687 from zq9) (zrk HO685.out) zq52) hk) (Kd.R_base ho0)) (fun _ h_ => h_.1))
  replace HK := zA (KeepBut.trans zq16 hk (.inl rfl))
  replace HB := zA (hb)
  replace HI0 := zA (hi)
  (try clear hb)
  (try clear hb2)
  (try clear hk)
  (try clear hi)
  (try clear ho0)
  obtain ⟨Ao56, co56, eo56⟩ := Kd.R_slice HO693.out
  (first | subst eo56 | (injection eo56 with f1_ f2_ f3_; have f4_ := f1_.symm; have f5_ := f3_.symm; clear f1_ f2_ f3_; subst f4_; subst f5_))
  obtain ⟨Ao57, co57, eo57⟩ := Kd.R_slice HO685.out
  (first | subst eo57 | (injection eo57 with f1_ f2_ f3_; have f4_ := f1_.symm; have f5_ := f3_.symm; clear f1_ f2_ f3_; subst f4_; subst f5_))
  refine hK.out _ _ (zd5 BK670.out) (fun hHeld => ?_)
  clear hK K
  refine norm_ (a' := ?_) ?_ ?_
  rotate_left
  ·show Act.put _ (some 26) _ = _
   simp only [zvs, i64_w, i32_w]
   rfl
  refine zyt 6 27 (zv 11 127) ?_
  refine one_ (i := 7) (N := some 28) (zv 11 255) rfl rfl (one_of HT_.out (by kernel_rfl)) zq52 (fun K hK => ?_)
  refine value_ (w1 := ?_) (v := ?_) zq94 rfl ?_ ?_
  rotate_left 2
  ·go_simp
   constructor
   ·rfl
   ·rfl
  refine hK.out _ _ ⟨(blk_cell (blk_alloc BK670.out _) 0).trans rfl, (blk_cell (blk_alloc BK670.out _) 1).trans rfl, (blk_cell (blk_alloc BK670.out _) 2).trans rfl, (blk_cell (blk_alloc BK670.out _) 3).trans rfl, (blk_cell (blk_alloc BK670.out _) 4).trans rfl⟩ (fun hHeld => ?_)
  clear hK K
  refine norm_ (a' := ?_) ?_ ?_
  rotate_left
  ·show Act.put _ (some 28) _ = _
   simp only [zvs, i64_w, i32_w]
   rfl
  refine one_ (i := 8) (N := some 29) (zv 11 511) rfl rfl (one_of HT_.out (by kernel_rfl)) zq52 (fun K hK => ?_)
  refine Kd.S_append_step k116 w.heap.size zq94 (.tmp 22) (.tmp 28) 24 116 (.agg #[(.slice none 0 0), (.int .i64 0), (.int .i64 0), (.string ⟨#[]⟩), (.slice none 0 0)]) 80 rfl Try.underlying24 info116 rfl zq52 zq183 (.slice Ao12 t665.length co12) t665 (⟨t683, (⟨t688, t689, t690, t691⟩ : S76)⟩ : S116) [.slice Ao57 t683.length co57, .int .i64 t688, .int .i64 t689, .string t690, .slice Ao56 t691.length co56] (fun _ => True) (fun k_ => some k_ = (.slice Ao57 t683.length co57 : Value).ownBlock ∨ some k_ = (.slice Ao56 t691.length co56 : Value).ownBlock) rfl rfl ?aP (fun k_ hk_ => hk_.elim (fun h_ => ((Kd.R_mono (ok' := fun k_ => ((fun _ => True)) k_ ∧ some k_ ≠ (.slice Ao12 t665.length co12 : Value).ownBlock) (Kd.R_apart' (HO685.out) (Kd.S_typed HO667.out) zq52) (fun k_ hk => ⟨trivial, hk.2⟩))).1 k_ h_.symm) (fun h_ => ((Kd.R_mono (ok' := fun k_ => ((fun _ => True)) k_ ∧ some k_ ≠ (.slice Ao12 t665.length co12 : Value).ownBlock) (Kd.R_apart' (HO693.out) (Kd.S_typed HO667.out) zq52) (fun k_ hk => ⟨trivial, hk.2⟩))).1 k_ h_.symm)) ?aF ?aO (Below.refl _ _) ?aS ?aL ?_
  (case aP => exact k116_mkM _ _ _ (⟨t683, (⟨t688, t689, t690, t691⟩ : S76)⟩ : S116) (Kd.R_mono (Kd.R_tight rfl (Kd.R_mono (ok' := fun k_ => ((fun _ => True)) k_ ∧ some k_ ≠ (.slice Ao12 t665.length co12 : Value).ownBlock) (Kd.R_apart' (HO685.out) (Kd.S_typed HO667.out) zq52) (fun k_ hk => ⟨trivial, hk.2⟩))) (fun _ h_ => Or.inl h_)) (Kd.R_mono (Kd.R_tight rfl (Kd.R_mono (ok' := fun k_ => ((fun _ => True)) k_ ∧ some k_ ≠ (.slice Ao12 t665.length co12 : Value).ownBlock) (Kd.R_apart' (HO693.out) (Kd.S_typed HO667.out) zq52) (fun k_ hk => ⟨trivial, hk.2⟩))) (fun _ h_ => Or.inr (h_))))
  (case aF => exact (fun _ _ => trivial))
  (case aO => exact (by (with_reducible repeat (first | apply Kd.S_alloc | apply Kd.S_drewN | apply Kd.S_drew)); exact Kd.S_mono HO667.out (fun k_ hk => ⟨trivial, fun e_ => e_.elim (fun h_ => hk.1.2 h_) (fun h_ => hk.2 h_)⟩)))
  (case aS => exact (keep_size (w := w) (g := g) (row := none) zq16))
  (case aL => have := LMc51.out; omega)
  intro v697 w58 ho hb hg hat
  rw [← Ny696.out] at ho
  replace BK660 := zA (blk_grown (g := gb660) (o := .cells #[.int .i64 0, .int .i64 0, .int .i64 0, .int .i64 0, .slice none 0 0] 26 (0, 0)) (zbk BK660.out) hg (Kd.S_ne HO667.out BK660.out zq52))
  replace BK670 := zA (blk_grown (g := gb670) (o := .cells #[.int .i64 t661, .int .i64 t662, .int .i64 t663, .int .i64 t664, .slice Ao12 t665.length co12] 26 (0, 0)) (zbk BK670.out) hg (Kd.S_ne HO667.out BK670.out zq52))
  replace HB := zA (below_weaken zq26 HL.out hb)
  replace HI0 := zA (IsS170.grown zq9 hg (IsS170.own_neS HI0.out HO667.out zq52))
  replace HK := zA (KeepBut.trans zq16 (KeepBut.of_grown hg g) (Kd.S_base2 HO667.out))
  have HO698 := zA (ho)
  clear HO667
  clear HO685
  clear HO693
  clear ho hb hg hat
  obtain ⟨Ao59, co59, eo59⟩ := Kd.S_slice HO698.out
  (first | subst eo59 | (injection eo59 with f1_ f2_ f3_; have f4_ := f1_.symm; have f5_ := f3_.symm; clear f1_ f2_ f3_; subst f4_; subst f5_))
  refine hK.out _ _ (zd5 BK670.out) (fun hHeld => ?_)
  clear hK K
  refine norm_ (a' := ?_) ?_ ?_
  rotate_left
  ·show Act.put _ (some 29) _ = _
   simp only [zvs, i64_w, i32_w]
   rfl
  refine zyt 9 30 (zv 11 1023) ?_
  refine last_ (i := 10) (N := none) (zv 11 2047) rfl rfl (one_of HT_.out (by kernel_rfl)) zq52 (fun K hK => ?_)
  have hs60 : w58.cell? ⟨gb670, 4, none⟩ = some (.slice Ao12 t665.length co12) := (blk_cell BK670.out 4).trans rfl
  have hfs60 := blk_frozen BK670.out 4
  have hns60_0 := NB660_670.out
  have hms60_0 := NB670_660.out
  refine skip_ (w1 := ?_) zq94 rfl ?_ ?_
  rotate_left
  ·go_simp
   rfl
  refine hK.out _ _ ?_
  clear hK K
  refine done_ (done_of HT_.out (by kernel_rfl)) ?_
  go_upto_region 12 with fail
  obtain ⟨rfl, rfl, rfl, rfl, rfl, rfl, rfl⟩ := zt7 H
  have hn61 := zn NB670_660
  have hn62 := zn NB670_0
  have hz63 := zc5 BK670.out
  have hn64 := zn NB660_0
  have hz65 := zc5 BK660.out
  go_wp2
  refine bodyPost_ret (results_cell_row rfl _ _ gb660 26 #[.int .i64 t661, .int .i64 t662, .int .i64 t663, .int .i64 t664, .slice Ao59 y696.length co59] (0, 0) _ rfl (zbp BK660.out) Try.underlying26 rfl (by kernel_rfl)) rfl ?_
  exact ⟨_, zq1, (by (with_reducible repeat (first | apply Kd.S_alloc | apply Kd.S_drewN | apply Kd.S_drew)); exact Kd.S_mono (Kd.S_far (p := ⟨gb660, 4, none⟩) (Kd.S_far (p := ⟨gb660, 3, none⟩) (Kd.S_far (p := ⟨gb660, 2, none⟩) (Kd.S_far (p := ⟨gb660, 1, none⟩) (Kd.S_far (p := ⟨gb660, 0, none⟩) (Kd.S_far (p := ⟨gb670, 4, none⟩) (Kd.S_types (Kd.S_types HO698.out BK670.out zq52) BK660.out zq52) (fun _ hk => hk.1.2) (.slice Ao59 y696.length co59)) (fun _ hk => hk.2) (.int .i64 t661)) (fun _ hk => hk.2) (.int .i64 t662)) (fun _ hk => hk.2) (.int .i64 t663)) (fun _ hk => hk.2) (.int .i64 t664)) (fun _ hk => hk.2) (.slice Ao59 y696.length co59)) (fun _ hk => trivial)), zq9, zq26, zq16⟩
 have c47b0 : (t671 == 2) = false := beq_eq_false_iff_ne.mpr c47
 have c47b1 : (t671 != 2) = true := bne_iff_ne.mpr c47
 go_upto_region 9 with fail
 replace H := zP H; rcases H with ⟨c67, H⟩ | ⟨c67, H⟩
 ·have c67b0 : (t671 == 3) = true := beq_iff_eq.mpr c67
  have c67b1 : (t671 != 3) = false := bne_eq_false_iff_eq.mpr c67
  clear c67
  have H' := H; clear H
  go_wp2
  go_loopg [] k (fun kq w' => ∃ (x1001_1 : Int) (x1002_1 : Int) (x671004_1 : List (S116)) (u671004 : Value), Aside0 (spec_l4Any.l0 kq s0_0 x1001_1 x1002_1 t661 t662 t663 t664 x671004_1 = some (r1, r2, r3, r4, r5, r6, r7)) ∧ Aside0 (kq ≤ k) ∧ Aside0 (Kd.S k116 116 w' w.heap.size (fun _ => True) u671004 x671004_1) ∧ Aside0 (w'.heap[gb660]? = some (.cells #[.int .i64 0, .int .i64 0, .int .i64 0, .int .i64 0, (.slice none 0 0)] 26 (0, 0))) ∧ Aside0 (w'.heap[gb670]? = some (.cells #[.int .i64 t661, .int .i64 t662, .int .i64 t663, .int .i64 t664, u671004] 26 (0, 0))) ∧ Aside0 (IsS170 w0 w' g s0_0 x1001_1 x1002_1) ∧ Aside0 (KeepBut w w' g none) ∧ Aside0 (Below w0.heap.size w0 w'))
  case atStart => exact ⟨(t672), (t673), (t665), (.slice Ao12 t665.length co12), H', ⟨Nat.le_refl _⟩, ⟨(zsk HO667.out)⟩, ⟨(zbk BK660.out)⟩, ⟨(zbk BK670.out)⟩, ⟨zq9⟩, ⟨zq16⟩, ⟨zq26⟩⟩
  case round =>
   clear H'
   try clear c1
   try clear c2
   try clear p2
   try clear c3
   try clear c4
   try clear c5
   try clear c6
   try clear c9
   try clear c10
   try clear c11
   try clear c13
   try clear c14
   try clear c16
   try clear c16b0
   try clear c16b1
   try clear c17
   try clear c21
   try clear c22
   try clear c24
   try clear c25
   try clear c27
   try clear c30
   try clear c30b0
   try clear c30b1
   try clear c38
   try clear c39
   try clear c41
   try clear c42
   try clear c44
   try clear c47
   try clear c47b0
   try clear c47b1
   try clear c51
   try clear c61
   try clear c62
   try clear c64
   try clear c67
   try clear c67b0
   try clear c67b1
   try clear hz11
   try clear hz23
   try clear hz26
   try clear hz28
   try clear hz40
   try clear hz43
   try clear hz45
   try clear hz63
   try clear hz65
   obtain ⟨x1001_1, x1002_1, x671004_1, u671004, HA, HK1, HO_671004, BK660, BK670, HI0, HK, HB⟩ := hrel
   cases gk with
   | zero => exact absurd HA.out (by simp [spec_l4Any.l0])
   | succ k1 =>
    have H := HA
    clear HA
    simp only [spec_l4Any.l0] at H
    go_upto_region 10 with fail
    replace H := zB H; obtain ⟨⟨t699, t700, t701⟩, A69, H⟩ := H
    try dsimp only at H
    replace H := zPd H; rcases H with ⟨c70b0, H⟩ | ⟨c70b0, H⟩
    ·try go_wp2
     replace HO_671004 := zA (Kd.S_drew HO_671004.out)
     replace BK660 := zA (blk_drew BK660.out)
     replace BK670 := zA (blk_drew BK670.out)
     replace HI0 := zA (IsS170.drew HI0.out)
     replace HK := zA (keep_drew HK.out)
     replace HB := zA (below_drew1 HB.out)
     obtain ⟨Ao73, co73, eo73⟩ := Kd.S_slice HO_671004.out
     (first | subst eo73 | (injection eo73 with f1_ f2_ f3_; have f4_ := f1_.symm; have f5_ := f3_.symm; clear f1_ f2_ f3_; subst f4_; subst f5_))
     refine start_ (n := 7) (S := fun w' => w'.cell? ⟨gb670, 0, none⟩ = some (.int .i64 t661) ∧ w'.cell? ⟨gb670, 1, none⟩ = some (.int .i64 t662) ∧ w'.cell? ⟨gb670, 2, none⟩ = some (.int .i64 t663) ∧ w'.cell? ⟨gb670, 3, none⟩ = some (.int .i64 t664) ∧ w'.cell? ⟨gb670, 4, none⟩ = some (.slice Ao73 x671004_1.length co73)) (ds := []) (zv 7 0) (by kernel_rfl) rfl rfl (zd5 BK670.out) (fun hHeld => ?_)
     generalize wr.drew = w72 at HO_671004 BK660 BK670 HI0 HK HB hHeld ⊢
     refine zyk 0 33 (zv 7 1) ?_
     refine zyk 3 36 (zv 7 9) ?_
     refine take_ (i := 1) (N := some 34) (v := ?_) (a' := ?_) (zv 7 11) rfl rfl (by kernel_rfl) (fun _ _ _ h => h) (Or.inl ⟨zq94, ?_⟩) hHeld ?_ ?_
     rotate_left
     ·rintro w' ⟨s0, s1, s2, s3, s4⟩
      go_simp
      with_reducible rfl
     rotate_left
     ·simp only [zvs, i64_w, i32_w]
      rfl
     refine zyk 2 35 (zv 7 15) ?_
     refine one_ (i := 4) (N := some 37) (zv 7 31) rfl rfl (by kernel_rfl) zq52 (fun K hK => ?_)
     refine goes_ Try.func131 (by kernel_rfl) rfl #[.pointer (some ⟨g, 0, none⟩), .int .i64 2] zq94 rfl rfl zq20 ?_
     with_reducible refine (spec_l1Below.calls g s0_0 x1001_1 x1002_1 2 t699 t700 t701 w0 _ ?side1 ?side2 A69.out).mono ?_
     (case side1 => exact zq9)
     (case side2 => exact zq26)
     rintro e w74 ⟨rfl, hi, hb, hk⟩
     refine ⟨_, rfl, ?_⟩
     replace HO_671004 := zA (Kd.S_mono (Kd.S_keep (IsS170.apartS (show IsS170 w0 _ g s0_0 x1001_1 x1002_1 from zq9) (zsk HO_671004.out) zq52) hk (fun _ h => h.2)) (fun _ h => h.1))
     replace BK660 := zA (zkb hk BK660.out NB660_0.out)
     replace BK670 := zA (zkb hk BK670.out NB670_0.out)
     replace HK := zA (KeepBut.trans zq16 hk (.inl rfl))
     replace HB := zA (hb)
     replace HI0 := zA (hi)
     (try clear hb)
     (try clear hb2)
     (try clear hk)
     (try clear hi)
     refine hK.out _ _ (zd5 BK670.out) (fun hHeld => ?_)
     clear hK K
     refine norm_ (a' := ?_) ?_ ?_
     rotate_left
     ·show Act.put _ (some 37) _ = _
      simp only [zvs, i64_w, i32_w]
      rfl
     refine zyk 5 38 (zv 7 63) ?_
     refine zyk 6 39 (zv 7 127) ?_
     refine done_ (by kernel_rfl) ?_
     go_upto_region 11 with fail
     replace H := zB H; obtain ⟨⟨t702, t705, t706⟩, A75, H⟩ := H
     try dsimp only at H
     replace H := zN H; obtain ⟨c76, H⟩ := H
     have LMc76 := zA c76
     clear c76
     obtain ⟨y707, hy707⟩ : ∃ y_ : List (S116), y_ = (x671004_1 ++ [(⟨t702, (⟨4, 0, (⟨#[116, 119, 101, 110, 116, 121, 45, 98, 121, 116, 101, 115, 45, 111, 102, 45, 116, 101, 120, 116]⟩ : ByteArray), ([] : List Int)⟩ : S76)⟩ : S116)]) := ⟨_, rfl⟩
     rw [← hy707] at H
     have Ny707 := zA hy707
     clear hy707
     have H' := H; clear H
     try go_wp2
     replace HO_671004 := zA (Kd.S_drew HO_671004.out)
     replace BK660 := zA (blk_drew BK660.out)
     replace BK670 := zA (blk_drew BK670.out)
     replace HI0 := zA (IsS170.drew HI0.out)
     replace HK := zA (keep_drew HK.out)
     replace HB := zA (below_drew1 HB.out)
     refine start_ (n := 10) (S := fun w' => w'.cell? ⟨gb670, 0, none⟩ = some (.int .i64 t661) ∧ w'.cell? ⟨gb670, 1, none⟩ = some (.int .i64 t662) ∧ w'.cell? ⟨gb670, 2, none⟩ = some (.int .i64 t663) ∧ w'.cell? ⟨gb670, 3, none⟩ = some (.int .i64 t664) ∧ w'.cell? ⟨gb670, 4, none⟩ = some (.slice Ao73 x671004_1.length co73)) (ds := [9]) (zv 10 0) (by kernel_rfl) rfl rfl (zd5 BK670.out) (fun hHeld => ?_); refine with_tabW spec_l4Any.tab11 spec_l4Any.bits11 (fun HT_ HW_ => ?_)
     generalize w74.drew = w77 at HO_671004 BK660 BK670 HI0 HK HB hHeld ⊢
     refine zyt 0 40 (zv 10 1) ?_
     refine zyt 2 42 (zv 10 5) ?_
     refine zyt 4 44 (zv 10 21) ?_
     refine take_ (i := 1) (N := some 41) (v := ?_) (a' := ?_) (zv 10 23) rfl rfl (take_ofW HT_.out HW_.out (by kernel_rfl)) (fun _ _ _ h => h) (Or.inl ⟨zq94, ?_⟩) hHeld ?_ ?_
     rotate_left
     ·rintro w' ⟨s0, s1, s2, s3, s4⟩
      go_simp
      with_reducible rfl
     rotate_left
     ·simp only [zvs, i64_w, i32_w]
      rfl
     refine one_ (i := 3) (N := some 43) (zv 10 31) rfl rfl (one_of HT_.out (by kernel_rfl)) zq52 (fun K hK => ?_)
     refine goes_ Try.func180 (by kernel_rfl) rfl #[.pointer (some ⟨g, 0, none⟩)] zq94 rfl rfl zq20 ?_
     with_reducible refine (spec_l2Draw.calls k1 g s0_0 t700 t701 t702 t705 t706 w0 _ ?side1 ?side2 A75.out).mono ?_
     (case side1 => exact zq9)
     (case side2 => exact zq26)
     rintro e w78 ⟨v703, rfl, ho0, hi, hb, hk⟩
     refine ⟨_, rfl, ?_⟩
     replace HO_671004 := zA (Kd.S_mono (Kd.S_told (Kd.S_oldK (IsS170.apartS (show IsS170 w0 _ g s0_0 t700 t701 from zq9) (zsk HO_671004.out) zq52) hk) (Kd.R_base ho0)) (fun _ h_ => h_.1))
     replace BK660 := zA (zkb hk BK660.out NB660_0.out)
     replace BK670 := zA (zkb hk BK670.out NB670_0.out)
     have HO704 := zA (Kd.R_lower ho0 (keep_size (w := w) (g := g) (row := none) zq16))
     replace HK := zA (KeepBut.trans zq16 hk (.inl rfl))
     replace HB := zA (hb)
     replace HI0 := zA (hi)
     (try clear hb)
     (try clear hb2)
     (try clear hk)
     (try clear hi)
     (try clear ho0)
     obtain ⟨Ao79, co79, eo79⟩ := Kd.R_slice HO704.out
     (first | subst eo79 | (injection eo79 with f1_ f2_ f3_; have f4_ := f1_.symm; have f5_ := f3_.symm; clear f1_ f2_ f3_; subst f4_; subst f5_))
     refine hK.out _ _ (zd5 BK670.out) (fun hHeld => ?_)
     clear hK K
     refine norm_ (a' := ?_) ?_ ?_
     rotate_left
     ·show Act.put _ (some 43) _ = _
      simp only [zvs, i64_w, i32_w]
      rfl
     refine zyt 5 45 (zv 10 63) ?_
     refine one_ (i := 6) (N := some 46) (zv 10 127) rfl rfl (one_of HT_.out (by kernel_rfl)) zq52 (fun K hK => ?_)
     refine value_ (w1 := ?_) (v := ?_) zq94 rfl ?_ ?_
     rotate_left 2
     ·go_simp
      constructor
      ·rfl
      ·rfl
     refine hK.out _ _ ⟨(blk_cell (blk_alloc BK670.out _) 0).trans rfl, (blk_cell (blk_alloc BK670.out _) 1).trans rfl, (blk_cell (blk_alloc BK670.out _) 2).trans rfl, (blk_cell (blk_alloc BK670.out _) 3).trans rfl, (blk_cell (blk_alloc BK670.out _) 4).trans rfl⟩ (fun hHeld => ?_)
     clear hK K
     refine norm_ (a' := ?_) ?_ ?_
     rotate_left
     ·show Act.put _ (some 46) _ = _
      simp only [zvs, i64_w, i32_w]
      rfl
     refine one_ (i := 7) (N := some 47) (zv 10 255) rfl rfl (one_of HT_.out (by kernel_rfl)) zq52 (fun K hK => ?_)
     refine Kd.S_append_step k116 w.heap.size zq94 (.tmp 41) (.tmp 46) 24 116 (.agg #[(.slice none 0 0), (.int .i64 0), (.int .i64 0), (.string ⟨#[]⟩), (.slice none 0 0)]) 80 rfl Try.underlying24 info116 rfl zq52 zq183 (.slice Ao73 x671004_1.length co73) x671004_1 (⟨t702, (⟨4, 0, (⟨#[116, 119, 101, 110, 116, 121, 45, 98, 121, 116, 101, 115, 45, 111, 102, 45, 116, 101, 120, 116]⟩ : ByteArray), ([] : List Int)⟩ : S76)⟩ : S116) [.slice Ao79 t702.length co79, .int .i64 4, .int .i64 0, .string (⟨#[116, 119, 101, 110, 116, 121, 45, 98, 121, 116, 101, 115, 45, 111, 102, 45, 116, 101, 120, 116]⟩ : ByteArray), .slice none 0 0] (fun _ => True) (fun k_ => some k_ = (.slice Ao79 t702.length co79 : Value).ownBlock) rfl rfl ?aP (fun k_ hk_ => ((Kd.R_mono (ok' := fun k_ => ((fun _ => True)) k_ ∧ some k_ ≠ (.slice Ao73 x671004_1.length co73 : Value).ownBlock) (Kd.R_apart' (HO704.out) (Kd.S_typed HO_671004.out) zq52) (fun k_ hk => ⟨trivial, hk.2⟩))).1 k_ hk_.symm) ?aF ?aO (Below.refl _ _) ?aS ?aL ?_
     (case aP => exact k116_mkM _ _ _ (⟨t702, (⟨4, 0, (⟨#[116, 119, 101, 110, 116, 121, 45, 98, 121, 116, 101, 115, 45, 111, 102, 45, 116, 101, 120, 116]⟩ : ByteArray), ([] : List Int)⟩ : S76)⟩ : S116) (Kd.R_mono (Kd.R_tight rfl (Kd.R_mono (ok' := fun k_ => ((fun _ => True)) k_ ∧ some k_ ≠ (.slice Ao73 x671004_1.length co73 : Value).ownBlock) (Kd.R_apart' (HO704.out) (Kd.S_typed HO_671004.out) zq52) (fun k_ hk => ⟨trivial, hk.2⟩))) (fun _ h_ => h_)) (Kd.R_nil _ _ _ _ _))
     (case aF => exact (fun _ _ => trivial))
     (case aO => exact (by (with_reducible repeat (first | apply Kd.S_alloc | apply Kd.S_drewN | apply Kd.S_drew)); exact Kd.S_mono HO_671004.out (fun k_ hk => ⟨trivial, fun e_ => hk.2 e_⟩)))
     (case aS => exact (keep_size (w := w) (g := g) (row := none) zq16))
     (case aL => have := LMc76.out; omega)
     intro v708 w80 ho hb hg hat
     rw [← Ny707.out] at ho
     replace BK660 := zA (blk_grown (g := gb660) (o := .cells #[.int .i64 0, .int .i64 0, .int .i64 0, .int .i64 0, .slice none 0 0] 26 (0, 0)) (zbk BK660.out) hg (Kd.S_ne HO_671004.out BK660.out zq52))
     replace BK670 := zA (blk_grown (g := gb670) (o := .cells #[.int .i64 t661, .int .i64 t662, .int .i64 t663, .int .i64 t664, .slice Ao73 x671004_1.length co73] 26 (0, 0)) (zbk BK670.out) hg (Kd.S_ne HO_671004.out BK670.out zq52))
     replace HB := zA (below_weaken zq26 HL.out hb)
     replace HI0 := zA (IsS170.grown zq9 hg (IsS170.own_neS HI0.out HO_671004.out zq52))
     replace HK := zA (KeepBut.trans zq16 (KeepBut.of_grown hg g) (Kd.S_base2 HO_671004.out))
     have HO709 := zA (ho)
     clear HO_671004
     clear HO704
     clear ho hb hg hat
     obtain ⟨Ao81, co81, eo81⟩ := Kd.S_slice HO709.out
     (first | subst eo81 | (injection eo81 with f1_ f2_ f3_; have f4_ := f1_.symm; have f5_ := f3_.symm; clear f1_ f2_ f3_; subst f4_; subst f5_))
     refine hK.out _ _ (zd5 BK670.out) (fun hHeld => ?_)
     clear hK K
     refine norm_ (a' := ?_) ?_ ?_
     rotate_left
     ·show Act.put _ (some 47) _ = _
      simp only [zvs, i64_w, i32_w]
      rfl
     refine zyt 8 48 (zv 10 511) ?_
     refine last_ (i := 9) (N := none) (zv 10 1023) rfl rfl (one_of HT_.out (by kernel_rfl)) zq52 (fun K hK => ?_)
     have hs82 : w80.cell? ⟨gb670, 4, none⟩ = some (.slice Ao73 x671004_1.length co73) := (blk_cell BK670.out 4).trans rfl
     have hfs82 := blk_frozen BK670.out 4
     have hns82_0 := NB660_670.out
     have hms82_0 := NB670_660.out
     refine skip_ (w1 := ?_) zq94 rfl ?_ ?_
     rotate_left
     ·go_simp
      rfl
     refine hK.out _ _ ?_
     clear hK K
     refine done_ (done_of HT_.out (by kernel_rfl)) ?_
     try go_wp2
     go_roundg k1
     case measure => have := HK1.out; omega
     case rel => exact ⟨(t705), (t706), (y707), (.slice Ao81 y707.length co81), H', ⟨zq182⟩, ⟨(by (with_reducible repeat (first | apply Kd.S_alloc | apply Kd.S_drewN | apply Kd.S_drew)); exact Kd.S_mono (Kd.S_far (p := ⟨gb670, 4, none⟩) (Kd.S_types HO709.out BK670.out zq52) (fun _ hk => hk.2) (.slice Ao81 y707.length co81)) (fun _ hk => trivial))⟩, ⟨zbf BK660.out⟩, ⟨zbp BK670.out⟩, ⟨zq9⟩, ⟨zq16⟩, ⟨zq26⟩⟩
    try go_wp2
    replace HO_671004 := zA (Kd.S_drew HO_671004.out)
    replace BK660 := zA (blk_drew BK660.out)
    replace BK670 := zA (blk_drew BK670.out)
    replace HI0 := zA (IsS170.drew HI0.out)
    replace HK := zA (keep_drew HK.out)
    replace HB := zA (below_drew1 HB.out)
    obtain ⟨Ao85, co85, eo85⟩ := Kd.S_slice HO_671004.out
    (first | subst eo85 | (injection eo85 with f1_ f2_ f3_; have f4_ := f1_.symm; have f5_ := f3_.symm; clear f1_ f2_ f3_; subst f4_; subst f5_))
    refine start_ (n := 7) (S := fun w' => w'.cell? ⟨gb670, 0, none⟩ = some (.int .i64 t661) ∧ w'.cell? ⟨gb670, 1, none⟩ = some (.int .i64 t662) ∧ w'.cell? ⟨gb670, 2, none⟩ = some (.int .i64 t663) ∧ w'.cell? ⟨gb670, 3, none⟩ = some (.int .i64 t664) ∧ w'.cell? ⟨gb670, 4, none⟩ = some (.slice Ao85 x671004_1.length co85)) (ds := []) (zv 7 0) (by kernel_rfl) rfl rfl (zd5 BK670.out) (fun hHeld => ?_)
    generalize wr.drew = w84 at HO_671004 BK660 BK670 HI0 HK HB hHeld ⊢
    refine zyk 0 33 (zv 7 1) ?_
    refine zyk 3 36 (zv 7 9) ?_
    refine take_ (i := 1) (N := some 34) (v := ?_) (a' := ?_) (zv 7 11) rfl rfl (by kernel_rfl) (fun _ _ _ h => h) (Or.inl ⟨zq94, ?_⟩) hHeld ?_ ?_
    rotate_left
    ·rintro w' ⟨s0, s1, s2, s3, s4⟩
     go_simp
     with_reducible rfl
    rotate_left
    ·simp only [zvs, i64_w, i32_w]
     rfl
    refine zyk 2 35 (zv 7 15) ?_
    refine one_ (i := 4) (N := some 37) (zv 7 31) rfl rfl (by kernel_rfl) zq52 (fun K hK => ?_)
    refine goes_ Try.func131 (by kernel_rfl) rfl #[.pointer (some ⟨g, 0, none⟩), .int .i64 2] zq94 rfl rfl zq20 ?_
    with_reducible refine (spec_l1Below.calls g s0_0 x1001_1 x1002_1 2 t699 t700 t701 w0 _ ?side1 ?side2 A69.out).mono ?_
    (case side1 => exact zq9)
    (case side2 => exact zq26)
    rintro e w86 ⟨rfl, hi, hb, hk⟩
    refine ⟨_, rfl, ?_⟩
    replace HO_671004 := zA (Kd.S_mono (Kd.S_keep (IsS170.apartS (show IsS170 w0 _ g s0_0 x1001_1 x1002_1 from zq9) (zsk HO_671004.out) zq52) hk (fun _ h => h.2)) (fun _ h => h.1))
    replace BK660 := zA (zkb hk BK660.out NB660_0.out)
    replace BK670 := zA (zkb hk BK670.out NB670_0.out)
    replace HK := zA (KeepBut.trans zq16 hk (.inl rfl))
    replace HB := zA (hb)
    replace HI0 := zA (hi)
    (try clear hb)
    (try clear hb2)
    (try clear hk)
    (try clear hi)
    refine hK.out _ _ (zd5 BK670.out) (fun hHeld => ?_)
    clear hK K
    refine norm_ (a' := ?_) ?_ ?_
    rotate_left
    ·show Act.put _ (some 37) _ = _
     simp only [zvs, i64_w, i32_w]
     rfl
    refine zyk 5 38 (zv 7 63) ?_
    refine zyk 6 39 (zv 7 127) ?_
    refine done_ (by kernel_rfl) ?_
    go_upto_region 12 with fail
    obtain ⟨rfl, rfl, rfl, rfl, rfl, rfl, rfl⟩ := zt7 H
    have hn87 := zn NB670_660
    have hn88 := zn NB670_0
    have hz89 := zc5 BK670.out
    have hn90 := zn NB660_0
    have hz91 := zc5 BK660.out
    go_wp2
    refine bodyPost_ret (results_cell_row rfl _ _ gb660 26 #[.int .i64 t661, .int .i64 t662, .int .i64 t663, .int .i64 t664, .slice Ao85 x671004_1.length co85] (0, 0) _ rfl (zbp BK660.out) Try.underlying26 rfl (by kernel_rfl)) rfl ?_
    exact ⟨_, zq1, (by (with_reducible repeat (first | apply Kd.S_alloc | apply Kd.S_drewN | apply Kd.S_drew)); exact Kd.S_mono (Kd.S_far (p := ⟨gb660, 4, none⟩) (Kd.S_far (p := ⟨gb660, 3, none⟩) (Kd.S_far (p := ⟨gb660, 2, none⟩) (Kd.S_far (p := ⟨gb660, 1, none⟩) (Kd.S_far (p := ⟨gb660, 0, none⟩) (Kd.S_types HO_671004.out BK660.out zq52) (fun _ hk => hk.2) (.int .i64 t661)) (fun _ hk => hk.2) (.int .i64 t662)) (fun _ hk => hk.2) (.int .i64 t663)) (fun _ hk => hk.2) (.int .i64 t664)) (fun _ hk => hk.2) (.slice Ao85 x671004_1.length co85)) (fun _ hk => trivial)), zq9, zq26, zq16⟩
 have c67b0 : (t671 == 3) = false := beq_eq_false_iff_ne.mpr c67
 have c67b1 : (t671 != 3) = true := bne_iff_ne.mpr c67
 go_upto_region 12 with fail
 obtain ⟨rfl, rfl, rfl, rfl, rfl, rfl, rfl⟩ := zt7 H
 have hn93 := zn NB670_660
 have hn94 := zn NB670_0
 have hz95 := zc5 BK670.out
 have hn96 := zn NB660_0
 have hz97 := zc5 BK660.out
 go_wp2
 refine bodyPost_ret (results_cell_row rfl _ _ gb660 26 #[.int .i64 t661, .int .i64 t662, .int .i64 t663, .int .i64 t664, .slice Ao12 t665.length co12] (0, 0) _ rfl (zbp BK660.out) Try.underlying26 rfl (by kernel_rfl)) rfl ?_
 exact ⟨_, zq1, (by (with_reducible repeat (first | apply Kd.S_alloc | apply Kd.S_drewN | apply Kd.S_drew)); exact Kd.S_mono (Kd.S_far (p := ⟨gb660, 4, none⟩) (Kd.S_far (p := ⟨gb660, 3, none⟩) (Kd.S_far (p := ⟨gb660, 2, none⟩) (Kd.S_far (p := ⟨gb660, 1, none⟩) (Kd.S_far (p := ⟨gb660, 0, none⟩) (Kd.S_types HO667.out BK660.out zq52) (fun _ hk => hk.2) (.int .i64 t661)) (fun _ hk => hk.2) (.int .i64 t662)) (fun _ hk => hk.2) (.int .i64 t663)) (fun _ hk => hk.2) (.int .i64 t664)) (fun _ hk => hk.2) (.slice Ao12 t665.length co12)) (fun _ hk => trivial)), zq9, zq26, zq16⟩

end Go.Proofs.Ytkcgghgkmgbphaa.PFnMsgs
