-- WRITTEN BY a turned copy of the kit's printer (wip/patch_print.py), for this claim
import Derived.Test.YtkcgghgkmgbphaaPFnMsgsx0
import Derived.Test.YtkcgghgkmgbphaaPFnMsgsx3
import Derived.Test.YtkcgghgkmgbphaaPFnMsgsx15
import Derived.Test.YtkcgghgkmgbphaaPFnMsgsx16
namespace Go.Proofs.Ytkcgghgkmgbphaa.PFnMsgs
open Go.RowKit Go.Proofs.YtkcgghgkmgbphaaW.PrintWords Go.Proofs.YtkcgghgkmgbphaaW.PrintLast Go.Proofs.YtkcgghgkmgbphaaW.PrintMore
attribute [local go_sem] max2_int min2_int max_two min_two max_three min_three max_four min_four   -- for this text's walks alone
set_option linter.unusedVariables false
set_option linter.unusedSimpArgs false
set_option maxHeartbeats 8000000
set_option maxRecDepth 100000

attribute [local go_sem] cell_setCell_m
/-! ### spec_l4Draw: function 111 -/
mutual
def spec_l4Draw.j0 : Nat → Bool → List Int → Int → Int → Int → Int → Int → Int → Option (Int × Int × Int × Int × (List (S116)) × Int × Int)
 | 0, _, _, _, _, _, _, _, _ => none
 | k + 1, x19, x1000, x1001, x1002, x578000, x578001, x578002, x578003 => if x19 = true then ((spec_l1Below.f x1000 x1001 x1002 4).bind fun bt578 => ((spec_l1Below.f x1000 bt578.2.1 bt578.2.2 5).bind fun bt581 => (spec_l4Draw.j1 k x1000 bt581.2.1 bt581.2.2 x578000 x578001 bt578.1 bt581.1))) else (spec_l4Draw.j1 k x1000 x1001 x1002 x578000 x578001 x578002 x578003)
def spec_l4Draw.j1 : Nat → List Int → Int → Int → Int → Int → Int → Int → Option (Int × Int × Int × Int × (List (S116)) × Int × Int)
 | 0, _, _, _, _, _, _, _ => none
 | k + 1, x1000, x1001, x1002, x578000, x578001, x578002, x578003 => (spec_l1Below.f x1000 x1001 x1002 4).bind fun bt584 => (spec_l4Draw.l0 k bt584.1 x1000 bt584.2.1 bt584.2.2 x578000 x578001 x578002 x578003 ([] : List (S116)))
def spec_l4Draw.l0 : Nat → Int → List Int → Int → Int → Int → Int → Int → Int → List (S116) → Option (Int × Int × Int × Int × (List (S116)) × Int × Int)
 | 0, _, _, _, _, _, _, _, _, _ => none
 | k + 1, x4, x1000, x1001, x1002, x578000, x578001, x578002, x578003, x578004 => if x4 > 0 then ((spec_l2Draw.f k x1000 x1001 x1002).bind fun bt587 => ((spec_l3Draw.f k x1000 bt587.2.1 bt587.2.2).bind fun bt592 => (if x578004.length < 1759218604441 then (spec_l4Draw.l0 k (wrap64 (x4 - 1)) x1000 bt592.2.2.2.2.1 bt592.2.2.2.2.2 x578000 x578001 x578002 x578003 (x578004 ++ [(⟨bt587.1, (⟨bt592.1, bt592.2.1, bt592.2.2.1, bt592.2.2.2.1⟩ : S76)⟩ : S116)])) else (none)))) else (some (x578000, x578001, x578002, x578003, x578004, x1001, x1002))
end
def spec_l4Draw.f (k : Nat) (s0_0 : List Int) (s0_1 : Int) (s0_2 : Int) : Option (Int × Int × Int × Int × (List (S116)) × Int × Int) := (spec_l1Int.f s0_0 s0_1 s0_2 (([160, 161, 162, 163, 165] : List Int))).bind fun bt570 => ((spec_l1Num.f s0_0 bt570.2.1 bt570.2.2).bind fun bt573 => ((spec_l1Clip.f bt573.1).bind fun t576 => (if bt570.1 = 162 then (spec_l4Draw.j0 k true s0_0 bt573.2.1 bt573.2.2 bt570.1 t576 0 0) else (spec_l4Draw.j0 k (bt570.1 == 165) s0_0 bt573.2.1 bt573.2.2 bt570.1 t576 0 0))))
theorem spec_l4Draw.mono_l : ∀ k, (∀ y0 y1 y2 y3 y4 y5 y6 y7, LeO (spec_l4Draw.j0 k y0 y1 y2 y3 y4 y5 y6 y7) (spec_l4Draw.j0 (k + 1) y0 y1 y2 y3 y4 y5 y6 y7)) ∧ (∀ y0 y1 y2 y3 y4 y5 y6, LeO (spec_l4Draw.j1 k y0 y1 y2 y3 y4 y5 y6) (spec_l4Draw.j1 (k + 1) y0 y1 y2 y3 y4 y5 y6)) ∧ (∀ y0 y1 y2 y3 y4 y5 y6 y7 y8, LeO (spec_l4Draw.l0 k y0 y1 y2 y3 y4 y5 y6 y7 y8) (spec_l4Draw.l0 (k + 1) y0 y1 y2 y3 y4 y5 y6 y7 y8))
 | 0 => ⟨fun _ _ _ _ _ _ _ _ r h => by simp [spec_l4Draw.j0] at h, fun _ _ _ _ _ _ _ r h => by simp [spec_l4Draw.j1] at h, fun _ _ _ _ _ _ _ _ _ r h => by simp [spec_l4Draw.l0] at h⟩
 | k + 1 => by
  obtain ⟨ih0, ih1, ih2⟩ := spec_l4Draw.mono_l k
  refine ⟨?_, ?_, ?_⟩
  ·intro y0 y1 y2 y3 y4 y5 y6 y7
   unfold spec_l4Draw.j0
   have m0_ := @spec_l2Draw.mono
   have m1_ := @spec_l3Draw.mono
   exact zR
  ·intro y0 y1 y2 y3 y4 y5 y6
   unfold spec_l4Draw.j1
   have m0_ := @spec_l2Draw.mono
   have m1_ := @spec_l3Draw.mono
   exact zR
  ·intro y0 y1 y2 y3 y4 y5 y6 y7 y8
   unfold spec_l4Draw.l0
   have m0_ := @spec_l2Draw.mono
   have m1_ := @spec_l3Draw.mono
   exact zR
theorem spec_l4Draw.mono : ∀ a0 a1 a2 k, LeO (spec_l4Draw.f k a0 a1 a2) (spec_l4Draw.f (k + 1) a0 a1 a2) := by
 intro a0 a1 a2 k
 obtain ⟨ih0, ih1, ih2⟩ := spec_l4Draw.mono_l k
 unfold spec_l4Draw.f
 have m0_ := @spec_l2Draw.mono
 have m1_ := @spec_l3Draw.mono
 exact zR
def spec_l4Draw.T8 : Bool × List (List Nat × List Nat) := (true, [([], []), ([0], [0]), ([], []), ([2], [2]), ([], []), ([4, 3], [4]), ([3, 5], [3, 5]), ([6], [6]), ([1, 7, 5], [1, 7]), ([0, 1, 2, 3, 4, 5, 6, 7, 8], []), ([9, 8, 8, 0, 1, 2, 3, 4, 5, 6, 7, 8], [8, 9])])
def spec_l4Draw.B8 : List Nat := [0, 1, 0, 4, 0, 28, 60, 124, 255, 511, 1023]
theorem spec_l4Draw.tab8 : rtab .any (opsOf Try.f111 8) = spec_l4Draw.T8 := by kernel_rfl
theorem spec_l4Draw.bits8 : waitsOk spec_l4Draw.T8.2 spec_l4Draw.B8 = true := by kernel_rfl
theorem spec_l4Draw.calls (k : Nat) (g : Nat) (s0_0 : List Int) (s0_1 : Int) (s0_2 : Int) (r1 : Int) (r2 : Int) (r3 : Int) (r4 : Int) (r5 : List (S116)) (r6 : Int) (r7 : Int) (w0 w : World) (hI : IsS170 w0 w g s0_0 s0_1 s0_2) (hB : Below w0.heap.size w0 w) (h : spec_l4Draw.f k s0_0 s0_1 s0_2 = some (r1, r2, r3, r4, r5, r6, r7)) :
  Calls Try.prog 111 #[.pointer (some ⟨g, 0, none⟩)] w fun e w' => ∃ v4_ : Value, e = .returned (.agg #[.int .i64 r1, .int .i64 r2, .int .i64 r3, .int .i64 r4, v4_]) ∧ Kd.S k116 116 w' w.heap.size (fun _ => True) v4_ r5 ∧ IsS170 w0 w' g s0_0 r6 r7 ∧ Below w0.heap.size w0 w' ∧ KeepBut w w' g none := by
 have hu26 := Try.underlying26
 have hu116 := Try.underlying116
 have HI0 := zA hI
 have HK := zA (KeepBut.refl w g none)
 have HL := zA hB.size
 clear hI
 have HW0 := zA hB.size
 have HB := zA hB
 clear hB
 unfold spec_l4Draw.f at h
 have H := zA h
 clear h
 go_enter Try.func111, Try.ntmps111
 go_upto_region 0 with fail
 go_upto_region 1 with (first | ((with_reducible refine gate_dst (N := 2) rfl ?_); refine box_event ?hg (N := 2) ?hd (cs := #[.int .i64 0, .int .i64 0, .int .i64 0, .int .i64 0, .slice none 0 0]) (t := 26) ?hr ?_; (case hd => rfl); (case hg => rfl); (case hr => exact zgs); intro gb566 hg w4 hbox hb; replace HB := zA (below_step zq6 hb); have BK566 := zA (hbox); have GW566 := zA ((zq77 : w.heap.size ≤ gb566)); have GE566 := zA ((Nat.le_trans HW0.out (zq77 : w.heap.size ≤ gb566) : w0.heap.size ≤ gb566)); replace HK := zA (KeepBut.trans zq2 (KeepBut.of_below hb g none) (.inl rfl)); have NB0_566 := zA ((zq122 : g ≠ gb566)); have NB566_0 := zA ((zq123 : gb566 ≠ g)); replace HI0 := zA (IsS170.below zq3 hb); clear hb hbox hg))
 (try simp only [zvs])
 obtain ⟨y567, hy567⟩ : ∃ y_ : List Int, y_ = (([160, 161, 162, 163, 165] : List Int)) := ⟨_, rfl⟩
 rw [← hy567] at H
 have Ny567 := zA hy567
 clear hy567
 replace H := zB H; obtain ⟨⟨t570, t571, t572⟩, A5, H⟩ := H
 try dsimp only at H
 replace H := zB H; obtain ⟨⟨t573, t574, t575⟩, A6, H⟩ := H
 try dsimp only at H
 replace H := zB H; obtain ⟨t576, A7, H⟩ := H
 try dsimp only at H
 go_upto_region 2 with (first | ((with_reducible refine gate_dst (N := 6) rfl ?_); refine Kd.R_lit (Kd.int .i64) _ 3 ?hg (N := 6) ?hd (xs := ([160, 161, 162, 163, 165] : List Int)) (inner := [.int .i64 160, .int .i64 161, .int .i64 162, .int .i64 163, .int .i64 165]) (ok := fun _ => True) (okp := fun _ => True) ?hr ?hp (fun _ hk => hk) trivial (Below.refl _ _) (Nat.le_refl _) zq219 ?_; (case hd => rfl); (case hg => rfl); (case hr => exact zgs); (case hp => exact (Reps.one (show Kd.M (Kd.int .i64) _ _ _ 160 [.int .i64 160] from rfl) (Reps.one (show Kd.M (Kd.int .i64) _ _ _ 161 [.int .i64 161] from rfl) (Reps.one (show Kd.M (Kd.int .i64) _ _ _ 162 [.int .i64 162] from rfl) (Reps.one (show Kd.M (Kd.int .i64) _ _ _ 163 [.int .i64 163] from rfl) (Reps.one (show Kd.M (Kd.int .i64) _ _ _ 165 [.int .i64 165] from rfl) (Reps.none _ _))))))); intro v568 w9 ho10 hb hg_ hnew_; clear hg_ hnew_; (first | rw [← Ny567.out] at ho10 | (simp only [Int.reduceToNat] at ho10; rw [← Ny567.out] at ho10)); have HO569 := zA (Kd.R_lower ho10 (keep_size (w := w) (g := g) (row := none) zq89)); replace BK566 := zA (zbb BK566.out hb); replace HK := zA (KeepBut.trans zq89 (KeepBut.of_below hb g none) (.inl rfl)); replace HB := zA (below_step zq116 hb); replace HI0 := zA (IsS170.below zq69 hb); clear hb ho10; obtain ⟨Ao11, co11, eo11⟩ := Kd.R_slice HO569.out; subst eo11) | ((with_reducible refine zg140 rfl ?_); refine zl140 (some 7) #[.pointer (some ⟨g, 0, none⟩), .slice Ao11 y567.length co11] ?_; (with_reducible refine (spec_l1Int.calls g s0_0 s0_1 s0_2 _ _ y567 t570 t571 t572 w0 _ ?side1 ?side2 ?side3 ?side4 ?side5 A5.out).mono ?_); (case side1 => exact zq69); (case side2 => exact zq116); (case side3 => exact (zck (Kd.R_reads' HO569.out).2.2)); (case side4 => exact (Kd.R_reads' HO569.out).2.1); (case side5 => exact far_slice (IsS170.own_ne HI0.out HO569.out zq52)); rintro e w12 ⟨rfl, hi, hb, hk⟩; refine ⟨_, rfl, ?_⟩; replace BK566 := zA (zkb hk BK566.out NB566_0.out); replace HO569 := zA (Kd.R_mono (Kd.R_keep (IsS170.apart (show IsS170 w0 _ g s0_0 s0_1 s0_2 from zq69) (zrk HO569.out) zq52) hk (fun _ h => h.2)) (fun _ h => h.1)); replace HK := zA (KeepBut.trans zq89 hk (.inl rfl)); replace HB := zA (hb); replace HI0 := zA (hi); clear hb hk hi) | ((with_reducible refine zg181 rfl ?_); refine zl181 (some 9) #[.pointer (some ⟨g, 0, none⟩)] ?_; (with_reducible refine (spec_l1Num.calls g s0_0 t571 t572 t573 t574 t575 w0 _ ?side1 ?side2 A6.out).mono ?_); (case side1 => exact zq69); (case side2 => exact zq116); rintro e w13 ⟨rfl, hi, hb, hk⟩; refine ⟨_, rfl, ?_⟩; replace BK566 := zA (zkb hk BK566.out NB566_0.out); replace HO569 := zA (Kd.R_mono (Kd.R_keep (IsS170.apart (show IsS170 w0 _ g s0_0 t571 t572 from zq69) (zrk HO569.out) zq52) hk (fun _ h => h.2)) (fun _ h => h.1)); replace HK := zA (KeepBut.trans zq89 hk (.inl rfl)); replace HB := zA (hb); replace HI0 := zA (hi); clear hb hk hi) | ((with_reducible refine zg174 rfl ?_); refine zl174 (some 10) #[.int .i64 t573] ?_; (with_reducible refine (spec_l1Clip.calls t573 t576 _ A7.out).mono ?_); rintro e w' ⟨rfl, ⟨nd, rfl⟩⟩; refine ⟨_, rfl, ?_⟩; (try (rw [drewN_self w13]; generalize hq_ : World.drewN w13 _ = w13; have n0_ : Aside0 (Kd.R (Kd.int .i64) 3 w13 w.heap.size (fun _ => True) (.slice Ao11 y567.length co11) y567) := ⟨(by rw [← hq_]; exact (zrk HO569.out))⟩; have n1_ : Aside0 (w13.heap[gb566]? = some (.cells #[.int .i64 0, .int .i64 0, .int .i64 0, .int .i64 0, .slice none 0 0] 26 (0, 0))) := ⟨(by rw [← hq_]; exact (zbk BK566.out))⟩; have n2_ : Aside0 (IsS170 w0 w13 g s0_0 t574 t575) := ⟨(by rw [← hq_]; exact zq69)⟩; have n3_ : Aside0 (KeepBut w w13 g none) := ⟨(by rw [← hq_]; exact zq89)⟩; have n4_ : Aside0 (Below w0.heap.size w0 w13) := ⟨(by rw [← hq_]; exact zq116)⟩; clear HO569 BK566 HI0 HK HB hq_; have HO569 := n0_; have BK566 := n1_; have HI0 := n2_; have HK := n3_; have HB := n4_; clear n0_ n1_ n2_ n3_ n4_))) | ((with_reducible refine gate_dst (N := 3) rfl ?_); refine box_event ?hg (N := 3) ?hd (cs := #[.int .i64 0, .int .i64 0, .int .i64 0, .int .i64 0, .slice none 0 0]) (t := 26) ?hr ?_; (case hd => rfl); (case hg => rfl); (case hr => exact zgs); intro gb577 hg w14 hbox hb; replace HO569 := zA (Kd.R_below (zrk HO569.out) hb); replace HB := zA (below_step zq116 hb); have BK577 := zA (hbox); have GW577 := zA ((zq227 : w.heap.size ≤ gb577)); have GE577 := zA ((Nat.le_trans HW0.out (zq227 : w.heap.size ≤ gb577) : w0.heap.size ≤ gb577)); replace HK := zA (KeepBut.trans zq89 (KeepBut.of_below hb g none) (.inl rfl)); have NB566_577 := zA ((by rw [hg]; exact Nat.ne_of_lt (blk_lt (g := gb566) (o := .cells #[.int .i64 0, .int .i64 0, .int .i64 0, .int .i64 0, .slice none 0 0] 26 (0, 0)) (zbk BK566.out)) : gb566 ≠ gb577)); have NB577_566 := zA ((by rw [hg]; exact Nat.ne_of_gt (blk_lt (g := gb566) (o := .cells #[.int .i64 0, .int .i64 0, .int .i64 0, .int .i64 0, .slice none 0 0] 26 (0, 0)) (zbk BK566.out)) : gb577 ≠ gb566)); replace BK566 := zA (zbb BK566.out hb); have NB0_577 := zA ((by rw [hg]; exact Nat.ne_of_lt (IsS170.lt (show IsS170 w0 _ g s0_0 t574 t575 from zq69)) : g ≠ gb577)); have NB577_0 := zA ((by rw [hg]; exact Nat.ne_of_gt (IsS170.lt (show IsS170 w0 _ g s0_0 t574 t575 from zq69)) : gb577 ≠ g)); replace HI0 := zA (IsS170.below zq69 hb); clear hb hbox hg; have hn15 := zn NB577_566; have hn16 := zn NB577_0; have hz17 := zc5 BK577.out))
 (try simp only [zvs])
 go_upto_region 2 with fail
 go_cut [19] (fun v19 wc => ∃ (kq : Nat) (x19_17 : Bool), v19 = .bool x19_17 ∧ Aside0 (spec_l4Draw.j0 kq x19_17 s0_0 t574 t575 t570 t576 0 0 = some (r1, r2, r3, r4, r5, r6, r7)) ∧ Aside0 (kq ≤ k) ∧ Aside0 (wc.heap[gb566]? = some (.cells #[.int .i64 0, .int .i64 0, .int .i64 0, .int .i64 0, (.slice none 0 0)] 26 (0, 0))) ∧ Aside0 (wc.heap[gb577]? = some (.cells #[.int .i64 t570, .int .i64 t576, .int .i64 0, .int .i64 0, (.slice none 0 0)] 26 (0, 0))) ∧ Aside0 (IsS170 w0 wc g s0_0 t574 t575) ∧ Aside0 (KeepBut w wc g none) ∧ Aside0 (Below w0.heap.size w0 wc))
 case first =>
  replace H := zP H; rcases H with ⟨c19, H⟩ | ⟨c19, H⟩
  ·have c19b0 : (t570 == 162) = true := beq_iff_eq.mpr c19
   have c19b1 : (t570 != 162) = false := bne_eq_false_iff_eq.mpr c19
   clear c19
   (first | rw [c19b0] | (simp only [i64_w, i32_w]; rw [c19b0]) | skip)
   have H' := H; clear H
   have hn20 := zn NB577_566
   have hn21 := zn NB577_0
   have hz22 := zc5 BK577.out
   go_wp2
   go_meet
   case rel => exact ⟨_, (true), zq15, H', ⟨zq120⟩, ⟨(zbf BK566.out)⟩, ⟨(zbp BK577.out)⟩, ⟨zq27⟩, ⟨zq36⟩, ⟨zq41⟩⟩
  have c19b0 : (t570 == 162) = false := beq_eq_false_iff_ne.mpr c19
  have c19b1 : (t570 != 162) = true := bne_iff_ne.mpr c19
  (first | rw [c19b0] | (simp only [i64_w, i32_w]; rw [c19b0]) | skip)
  have H' := H; clear H
  have hn23 := zn NB577_566
  have hn24 := zn NB577_0
  have hz25 := zc5 BK577.out
  go_wp2
  go_meet
  case rel => exact ⟨_, ((t570 == 165)), zq15, H', ⟨zq120⟩, ⟨(zbf BK566.out)⟩, ⟨(zbp BK577.out)⟩, ⟨zq27⟩, ⟨zq36⟩, ⟨zq41⟩⟩
 case rest =>
  try clear c1
  try clear c2
  try clear p2
  try clear c11
  try clear c14
  try clear c15
  try clear c16
  try clear c17
  try clear c18
  try clear c19
  try clear c19b0
  try clear c19b1
  try clear c20
  try clear c21
  try clear c23
  try clear c24
  try clear hz17
  try clear hz22
  try clear hz25
  obtain ⟨kq, x19_17, rfl, HA, HJ17, BK566, BK577, HI0, HK, HB⟩ := hcut
  cases kq with
  | zero => exact absurd HA.out (by simp [spec_l4Draw.j0])
  | succ kj17 =>
   have H := HA
   clear HA
   simp only [spec_l4Draw.j0] at H
   go_upto_if 19 with fail
   go_cut [] (fun wc => ∃ (kq : Nat) (x1001_25 : Int) (x1002_25 : Int) (x578002_25 : Int) (x578003_25 : Int), Aside0 (spec_l4Draw.j1 kq s0_0 x1001_25 x1002_25 t570 t576 x578002_25 x578003_25 = some (r1, r2, r3, r4, r5, r6, r7)) ∧ Aside0 (kq ≤ kj17) ∧ Aside0 (wc.heap[gb566]? = some (.cells #[.int .i64 0, .int .i64 0, .int .i64 0, .int .i64 0, (.slice none 0 0)] 26 (0, 0))) ∧ Aside0 (wc.heap[gb577]? = some (.cells #[.int .i64 t570, .int .i64 t576, .int .i64 x578002_25, .int .i64 x578003_25, (.slice none 0 0)] 26 (0, 0))) ∧ Aside0 (IsS170 w0 wc g s0_0 x1001_25 x1002_25) ∧ Aside0 (KeepBut w wc g none) ∧ Aside0 (Below w0.heap.size w0 wc))
   case first =>
    replace H := zE H; rcases H with ⟨rfl, H⟩ | ⟨rfl, H⟩
    ·go_upto_region 3 with fail
     replace H := zB H; obtain ⟨⟨t578, t579, t580⟩, A29, H⟩ := H
     try dsimp only at H
     go_upto_region 4 with (first | ((with_reducible refine zg131 rfl ?_); refine zl131 (some 21) #[.pointer (some ⟨g, 0, none⟩), .int .i64 4] ?_; (with_reducible refine (spec_l1Below.calls g s0_0 t574 t575 4 t578 t579 t580 w0 _ ?side1 ?side2 A29.out).mono ?_); (case side1 => exact zq27); (case side2 => exact zq41); rintro e w31 ⟨rfl, hi, hb, hk⟩; refine ⟨_, rfl, ?_⟩; replace BK566 := zA (zkb hk BK566.out NB566_0.out); replace BK577 := zA (zkb hk BK577.out NB577_0.out); replace HK := zA (KeepBut.trans zq36 hk (.inl rfl)); replace HB := zA (hb); replace HI0 := zA (hi); clear hb hk hi; have hn32 := zn NB577_566; have hn33 := zn NB577_0; have hz34 := zc5 BK577.out))
     (try simp only [zvs])
     replace H := zB H; obtain ⟨⟨t581, t582, t583⟩, A35, H⟩ := H
     try dsimp only at H
     have H' := H; clear H
     go_wp2_with (first | ((with_reducible refine zg131 rfl ?_); refine zl131 (some 24) #[.pointer (some ⟨g, 0, none⟩), .int .i64 5] ?_; (with_reducible refine (spec_l1Below.calls g s0_0 t579 t580 5 t581 t582 t583 w0 _ ?side1 ?side2 A35.out).mono ?_); (case side1 => exact zq27); (case side2 => exact zq41); rintro e w36 ⟨rfl, hi, hb, hk⟩; refine ⟨_, rfl, ?_⟩; replace BK566 := zA (KeepBut.blk hk (g' := gb566) (o := .cells #[.int .i64 0, .int .i64 0, .int .i64 0, .int .i64 0, .slice none 0 0] 26 (0, 0)) (zbf BK566.out) NB566_0.out zq219); replace BK577 := zA (KeepBut.blk hk (g' := gb577) (o := .cells #[.int .i64 t570, .int .i64 t576, .int .i64 t578, .int .i64 0, .slice none 0 0] 26 (0, 0)) (zbp BK577.out) NB577_0.out zq219); replace HK := zA (KeepBut.trans zq36 hk (.inl rfl)); replace HB := zA (hb); replace HI0 := zA (hi); clear hb hk hi; have hn37 := zn NB577_566; have hn38 := zn NB577_0; have hz39 := zc5 BK577.out))
     go_meet
     case rel => exact ⟨_, (t582), (t583), (t578), (t581), H', ⟨(by have := HJ17.out; first | omega | exact Nat.le_refl _)⟩, ⟨(zbf BK566.out)⟩, ⟨zbp BK577.out⟩, ⟨zq27⟩, ⟨zq36⟩, ⟨zq41⟩⟩
    have H' := H
    clear H
    go_wp2
    go_meet
    case rel => exact ⟨_, (t574), (t575), (0), (0), H', ⟨(by have := HJ17.out; first | omega | exact Nat.le_refl _)⟩, ⟨(zbk BK566.out)⟩, ⟨(zbk BK577.out)⟩, ⟨zq27⟩, ⟨zq36⟩, ⟨zq41⟩⟩
   case rest =>
    try clear c1
    try clear c2
    try clear p2
    try clear c3
    try clear c11
    try clear c13
    try clear c14
    try clear c15
    try clear c16
    try clear c17
    try clear c18
    try clear c19
    try clear c19b0
    try clear c19b1
    try clear c20
    try clear c21
    try clear c23
    try clear c24
    try clear c27
    try clear c32
    try clear c33
    try clear c37
    try clear c38
    try clear hz17
    try clear hz22
    try clear hz25
    try clear hz34
    try clear hz39
    try clear p2
    obtain ⟨kq, x1001_25, x1002_25, x578002_25, x578003_25, HA, HJ25, BK566, BK577, HI0, HK, HB⟩ := hcut
    cases kq with
    | zero => exact absurd HA.out (by simp [spec_l4Draw.j1])
    | succ kj25 =>
     have H := HA
     clear HA
     simp only [spec_l4Draw.j1] at H
     go_upto_region 5 with fail
     replace H := zB H; obtain ⟨⟨t584, t585, t586⟩, A41, H⟩ := H
     try dsimp only at H
     have H' := H; clear H
     go_wp2_with (first | ((with_reducible refine zg131 rfl ?_); refine zl131 (some 27) #[.pointer (some ⟨g, 0, none⟩), .int .i64 4] ?_; (with_reducible refine (spec_l1Below.calls g s0_0 x1001_25 x1002_25 4 t584 t585 t586 w0 _ ?side1 ?side2 A41.out).mono ?_); (case side1 => exact zq27); (case side2 => exact zq41); rintro e w42 ⟨rfl, hi, hb, hk⟩; refine ⟨_, rfl, ?_⟩; replace BK566 := zA (zkb hk BK566.out NB566_0.out); replace BK577 := zA (zkb hk BK577.out NB577_0.out); replace HK := zA (KeepBut.trans zq36 hk (.inl rfl)); replace HB := zA (hb); replace HI0 := zA (hi); clear hb hk hi))
     go_loopg [4] kj25 (fun kq v4 w' => ∃ (x4_3 : Int) (x1001_3 : Int) (x1002_3 : Int) (x578004_3 : List (S116)) (u578004 : Value), v4 = .int .i64 x4_3 ∧ Aside0 (spec_l4Draw.l0 kq x4_3 s0_0 x1001_3 x1002_3 t570 t576 x578002_25 x578003_25 x578004_3 = some (r1, r2, r3, r4, r5, r6, r7)) ∧ Aside0 (kq ≤ kj25) ∧ Aside0 (Kd.S k116 116 w' w.heap.size (fun _ => True) u578004 x578004_3) ∧ Aside0 (w'.heap[gb566]? = some (.cells #[.int .i64 0, .int .i64 0, .int .i64 0, .int .i64 0, (.slice none 0 0)] 26 (0, 0))) ∧ Aside0 (w'.heap[gb577]? = some (.cells #[.int .i64 t570, .int .i64 t576, .int .i64 x578002_25, .int .i64 x578003_25, u578004] 26 (0, 0))) ∧ Aside0 (IsS170 w0 w' g s0_0 x1001_3 x1002_3) ∧ Aside0 (KeepBut w w' g none) ∧ Aside0 (Below w0.heap.size w0 w'))
     case atStart => exact ⟨(t584), (t585), (t586), (([] : List (S116))), (.slice none 0 0), zq15, H', ⟨Nat.le_refl _⟩, ⟨zq70⟩, ⟨(zbk BK566.out)⟩, ⟨(zbk BK577.out)⟩, ⟨zq27⟩, ⟨zq36⟩, ⟨zq41⟩⟩
     case round =>
      clear H'
      try clear c1
      try clear c2
      try clear p2
      try clear c3
      try clear c11
      try clear c13
      try clear c14
      try clear c15
      try clear c16
      try clear c17
      try clear c18
      try clear c19
      try clear c19b0
      try clear c19b1
      try clear c20
      try clear c21
      try clear c23
      try clear c24
      try clear c27
      try clear c32
      try clear c33
      try clear c37
      try clear c38
      try clear hz17
      try clear hz22
      try clear hz25
      try clear hz34
      try clear hz39
      try clear p2
      obtain ⟨x4_3, x1001_3, x1002_3, x578004_3, u578004, rfl, HA, HK3, HO_578004, BK566, BK577, HI0, HK, HB⟩ := hrel
      cases gk with
      | zero => exact absurd HA.out (by simp [spec_l4Draw.l0])
      | succ k3 =>
       have H := HA
       clear HA
       simp only [spec_l4Draw.l0] at H
       go_upto_region 6 with fail
       replace H := zPd H; rcases H with ⟨c44b0, H⟩ | ⟨c44b0, H⟩
       ·go_upto_region 8 with fail
        replace H := zB H; obtain ⟨⟨t587, t590, t591⟩, A46, H⟩ := H
        try dsimp only at H
        replace H := zB H; obtain ⟨⟨t592, t593, t594, t595, t598, t599⟩, A47, H⟩ := H
        try dsimp only at H
        replace H := zN H; obtain ⟨c48, H⟩ := H
        have LMc48 := zA c48
        clear c48
        obtain ⟨y600, hy600⟩ : ∃ y_ : List (S116), y_ = (x578004_3 ++ [(⟨t587, (⟨t592, t593, t594, t595⟩ : S76)⟩ : S116)]) := ⟨_, rfl⟩
        rw [← hy600] at H
        have Ny600 := zA hy600
        clear hy600
        try go_wp2
        replace HO_578004 := zA (Kd.S_drew HO_578004.out)
        replace BK566 := zA (blk_drew BK566.out)
        replace BK577 := zA (blk_drew BK577.out)
        replace HI0 := zA (IsS170.drew HI0.out)
        replace HK := zA (keep_drew HK.out)
        replace HB := zA (below_drew1 HB.out)
        refine start_ (n := 11) (S := fun w' => w'.cell? ⟨gb577, 0, none⟩ = some (.int .i64 t570) ∧ w'.cell? ⟨gb577, 1, none⟩ = some (.int .i64 t576) ∧ w'.cell? ⟨gb577, 2, none⟩ = some (.int .i64 x578002_25) ∧ w'.cell? ⟨gb577, 3, none⟩ = some (.int .i64 x578003_25) ∧ w'.cell? ⟨gb577, 4, none⟩ = some (u578004)) (ds := [10]) (zv 11 0) (by kernel_rfl) rfl rfl (zd5 BK577.out) (fun hHeld => ?_); refine with_tabW spec_l4Draw.tab8 spec_l4Draw.bits8 (fun HT_ HW_ => ?_)
        generalize wr.drew = w50 at HO_578004 BK566 BK577 HI0 HK HB hHeld ⊢
        refine zyt 0 32 (zv 11 1) ?_
        refine zyt 2 34 (zv 11 5) ?_
        refine zyt 4 36 (zv 11 21) ?_
        refine take_ (i := 1) (N := some 33) (v := ?_) (a' := ?_) (zv 11 23) rfl rfl (take_ofW HT_.out HW_.out (by kernel_rfl)) (fun _ _ _ h => h) (Or.inl ⟨zq94, ?_⟩) hHeld ?_ ?_
        rotate_left
        ·rintro w' ⟨s0, s1, s2, s3, s4⟩
         go_simp
         with_reducible rfl
        rotate_left
        ·simp only [zvs, i64_w, i32_w]
         rfl
        refine one_ (i := 3) (N := some 35) (zv 11 31) rfl rfl (one_of HT_.out (by kernel_rfl)) zq52 (fun K hK => ?_)
        refine goes_ Try.func180 (by kernel_rfl) rfl #[.pointer (some ⟨g, 0, none⟩)] zq94 rfl rfl zq20 ?_
        with_reducible refine (spec_l2Draw.calls k3 g s0_0 x1001_3 x1002_3 t587 t590 t591 w0 _ ?side1 ?side2 A46.out).mono ?_
        (case side1 => exact zq27)
        (case side2 => exact zq41)
        rintro e w51 ⟨v588, rfl, ho0, hi, hb, hk⟩
        refine ⟨_, rfl, ?_⟩
        replace HO_578004 := zA (Kd.S_mono (Kd.S_told (Kd.S_oldK (IsS170.apartS (show IsS170 w0 _ g s0_0 x1001_3 x1002_3 from zq27) (zsk HO_578004.out) zq52) hk) (Kd.R_base ho0)) (fun _ h_ => h_.1))
        replace BK566 := zA (zkb hk BK566.out NB566_0.out)
        replace BK577 := zA (zkb hk BK577.out NB577_0.out)
        have HO589 := zA (Kd.R_lower ho0 (keep_size (w := w) (g := g) (row := none) zq36))
        replace HK := zA (KeepBut.trans zq36 hk (.inl rfl))
        replace HB := zA (hb)
        replace HI0 := zA (hi)
        (try clear hb)
        (try clear hb2)
        (try clear hk)
        (try clear hi)
        (try clear ho0)
        refine hK.out _ _ (zd5 BK577.out) (fun hHeld => ?_)
        clear hK K
        refine norm_ (a' := ?_) ?_ ?_
        rotate_left
        ·show Act.put _ (some 35) _ = _
         simp only [zvs, i64_w, i32_w]
         rfl
        refine one_ (i := 5) (N := some 37) (zv 11 63) rfl rfl (one_of HT_.out (by kernel_rfl)) zq52 (fun K hK => ?_)
        refine goes_ Try.func168 (by kernel_rfl) rfl #[.pointer (some ⟨g, 0, none⟩)] zq94 rfl rfl zq20 ?_
        with_reducible refine (spec_l3Draw.calls k3 g s0_0 t590 t591 t592 t593 t594 t595 t598 t599 w0 _ ?side1 ?side2 A47.out).mono ?_
        (case side1 => exact zq27)
        (case side2 => exact zq41)
        rintro e w52 ⟨v596, rfl, ho0, hi, hb, hk⟩
        refine ⟨_, rfl, ?_⟩
        replace HO_578004 := zA (Kd.S_mono (Kd.S_told (Kd.S_oldK (IsS170.apartS (show IsS170 w0 _ g s0_0 t590 t591 from zq27) (zsk HO_578004.out) zq52) hk) (Kd.R_base ho0)) (fun _ h_ => h_.1))
        replace BK566 := zA (zkb hk BK566.out NB566_0.out)
        replace BK577 := zA (zkb hk BK577.out NB577_0.out)
        have HO597 := zA (Kd.R_lower (Kd.R_new' ho0 (Kd.R_lt (zrk HO589.out))) (keep_size (w := w) (g := g) (row := none) zq36))
        replace HO589 := zA (Kd.R_mono (Kd.R_told (Kd.R_oldK (IsS170.apart (show IsS170 w0 _ g s0_0 t590 t591 from zq27) (zrk HO589.out) zq52) hk) (Kd.R_base ho0)) (fun _ h_ => h_.1))
        replace HK := zA (KeepBut.trans zq36 hk (.inl rfl))
        replace HB := zA (hb)
        replace HI0 := zA (hi)
        (try clear hb)
        (try clear hb2)
        (try clear hk)
        (try clear hi)
        (try clear ho0)
        obtain ⟨Ao53, co53, eo53⟩ := Kd.R_slice HO597.out
        (first | subst eo53 | (injection eo53 with f1_ f2_ f3_; have f4_ := f1_.symm; have f5_ := f3_.symm; clear f1_ f2_ f3_; subst f4_; subst f5_))
        obtain ⟨Ao54, co54, eo54⟩ := Kd.R_slice HO589.out
        (first | subst eo54 | (injection eo54 with f1_ f2_ f3_; have f4_ := f1_.symm; have f5_ := f3_.symm; clear f1_ f2_ f3_; subst f4_; subst f5_))
        refine hK.out _ _ (zd5 BK577.out) (fun hHeld => ?_)
        clear hK K
        refine norm_ (a' := ?_) ?_ ?_
        rotate_left
        ·show Act.put _ (some 37) _ = _
         simp only [zvs, i64_w, i32_w]
         rfl
        refine zyt 6 38 (zv 11 127) ?_
        refine one_ (i := 7) (N := some 39) (zv 11 255) rfl rfl (one_of HT_.out (by kernel_rfl)) zq52 (fun K hK => ?_)
        refine value_ (w1 := ?_) (v := ?_) zq94 rfl ?_ ?_
        rotate_left 2
        ·go_simp
         constructor
         ·rfl
         ·rfl
        refine hK.out _ _ ⟨(blk_cell (blk_alloc BK577.out _) 0).trans rfl, (blk_cell (blk_alloc BK577.out _) 1).trans rfl, (blk_cell (blk_alloc BK577.out _) 2).trans rfl, (blk_cell (blk_alloc BK577.out _) 3).trans rfl, (blk_cell (blk_alloc BK577.out _) 4).trans rfl⟩ (fun hHeld => ?_)
        clear hK K
        refine norm_ (a' := ?_) ?_ ?_
        rotate_left
        ·show Act.put _ (some 39) _ = _
         simp only [zvs, i64_w, i32_w]
         rfl
        refine one_ (i := 8) (N := some 40) (zv 11 511) rfl rfl (one_of HT_.out (by kernel_rfl)) zq52 (fun K hK => ?_)
        refine Kd.S_append_step k116 w.heap.size zq94 (.tmp 33) (.tmp 39) 24 116 (.agg #[(.slice none 0 0), (.int .i64 0), (.int .i64 0), (.string ⟨#[]⟩), (.slice none 0 0)]) 80 rfl Try.underlying24 info116 rfl zq52 zq183 u578004 x578004_3 (⟨t587, (⟨t592, t593, t594, t595⟩ : S76)⟩ : S116) [.slice Ao54 t587.length co54, .int .i64 t592, .int .i64 t593, .string t594, .slice Ao53 t595.length co53] (fun _ => True) (fun k_ => some k_ = (.slice Ao54 t587.length co54 : Value).ownBlock ∨ some k_ = (.slice Ao53 t595.length co53 : Value).ownBlock) rfl rfl ?aP (fun k_ hk_ => hk_.elim (fun h_ => ((Kd.R_mono (ok' := fun k_ => ((fun _ => True)) k_ ∧ some k_ ≠ (u578004 : Value).ownBlock) (Kd.R_apart' (HO589.out) (Kd.S_typed HO_578004.out) zq52) (fun k_ hk => ⟨trivial, hk.2⟩))).1 k_ h_.symm) (fun h_ => ((Kd.R_mono (ok' := fun k_ => ((fun _ => True)) k_ ∧ some k_ ≠ (u578004 : Value).ownBlock) (Kd.R_apart' (HO597.out) (Kd.S_typed HO_578004.out) zq52) (fun k_ hk => ⟨trivial, hk.2⟩))).1 k_ h_.symm)) ?aF ?aO (Below.refl _ _) ?aS ?aL ?_
        (case aP => exact k116_mkM _ _ _ (⟨t587, (⟨t592, t593, t594, t595⟩ : S76)⟩ : S116) (Kd.R_mono (Kd.R_tight rfl (Kd.R_mono (ok' := fun k_ => ((fun _ => True)) k_ ∧ some k_ ≠ (u578004 : Value).ownBlock) (Kd.R_apart' (HO589.out) (Kd.S_typed HO_578004.out) zq52) (fun k_ hk => ⟨trivial, hk.2⟩))) (fun _ h_ => Or.inl h_)) (Kd.R_mono (Kd.R_tight rfl (Kd.R_mono (ok' := fun k_ => ((fun _ => True)) k_ ∧ some k_ ≠ (u578004 : Value).ownBlock) (Kd.R_apart' (HO597.out) (Kd.S_typed HO_578004.out) zq52) (fun k_ hk => ⟨trivial, hk.2⟩))) (fun _ h_ => Or.inr (h_))))
        (case aF => exact (fun _ _ => trivial))
        (case aO => exact (by (with_reducible repeat (first | apply Kd.S_alloc | apply Kd.S_drewN | apply Kd.S_drew)); exact Kd.S_mono HO_578004.out (fun k_ hk => ⟨trivial, fun e_ => e_.elim (fun h_ => hk.1.2 h_) (fun h_ => hk.2 h_)⟩)))
        (case aS => exact (keep_size (w := w) (g := g) (row := none) zq36))
        (case aL => have := LMc48.out; omega)
        intro v601 w55 ho hb hg hat
        rw [← Ny600.out] at ho
        replace BK566 := zA (blk_grown (g := gb566) (o := .cells #[.int .i64 0, .int .i64 0, .int .i64 0, .int .i64 0, .slice none 0 0] 26 (0, 0)) (zbk BK566.out) hg (Kd.S_ne HO_578004.out BK566.out zq52))
        replace BK577 := zA (blk_grown (g := gb577) (o := .cells #[.int .i64 t570, .int .i64 t576, .int .i64 x578002_25, .int .i64 x578003_25, u578004] 26 (0, 0)) (zbk BK577.out) hg (Kd.S_ne HO_578004.out BK577.out zq52))
        replace HB := zA (below_weaken zq41 HL.out hb)
        replace HI0 := zA (IsS170.grown zq27 hg (IsS170.own_neS HI0.out HO_578004.out zq52))
        replace HK := zA (KeepBut.trans zq36 (KeepBut.of_grown hg g) (Kd.S_base2 HO_578004.out))
        have HO602 := zA (ho)
        clear HO_578004
        clear HO589
        clear HO597
        clear ho hb hg hat
        obtain ⟨Ao56, co56, eo56⟩ := Kd.S_slice HO602.out
        (first | subst eo56 | (injection eo56 with f1_ f2_ f3_; have f4_ := f1_.symm; have f5_ := f3_.symm; clear f1_ f2_ f3_; subst f4_; subst f5_))
        refine hK.out _ _ (zd5 BK577.out) (fun hHeld => ?_)
        clear hK K
        refine norm_ (a' := ?_) ?_ ?_
        rotate_left
        ·show Act.put _ (some 40) _ = _
         simp only [zvs, i64_w, i32_w]
         rfl
        refine zyt 9 41 (zv 11 1023) ?_
        refine last_ (i := 10) (N := none) (zv 11 2047) rfl rfl (one_of HT_.out (by kernel_rfl)) zq52 (fun K hK => ?_)
        have hs57 : w55.cell? ⟨gb577, 4, none⟩ = some (u578004) := (blk_cell BK577.out 4).trans rfl
        have hfs57 := blk_frozen BK577.out 4
        have hns57_0 := NB566_577.out
        have hms57_0 := NB577_566.out
        refine skip_ (w1 := ?_) zq94 rfl ?_ ?_
        rotate_left
        ·go_simp
         rfl
        refine hK.out _ _ ?_
        clear hK K
        refine done_ (done_of HT_.out (by kernel_rfl)) ?_
        go_upto_region 7 with fail
        have H' := H; clear H
        go_wp2
        go_roundg k3
        case measure => have := HJ17.out; have := HJ25.out; have := HK3.out; omega
        case rel => exact ⟨(wrap64 (x4_3 - 1)), (t598), (t599), (y600), (.slice Ao56 y600.length co56), zq15, H', ⟨(by have := HJ17.out; have := HJ25.out; have := HK3.out; omega)⟩, ⟨(by (with_reducible repeat (first | apply Kd.S_alloc | apply Kd.S_drewN | apply Kd.S_drew)); exact Kd.S_mono (Kd.S_far (p := ⟨gb577, 4, none⟩) (Kd.S_types HO602.out BK577.out zq52) (fun _ hk => hk.2) (.slice Ao56 y600.length co56)) (fun _ hk => trivial))⟩, ⟨(zbf BK566.out)⟩, ⟨zbp BK577.out⟩, ⟨zq27⟩, ⟨zq36⟩, ⟨zq41⟩⟩
       go_upto_region 9 with fail
       obtain ⟨rfl, rfl, rfl, rfl, rfl, rfl, rfl⟩ := zt7 H
       have hn59 := zn NB577_566
       have hn60 := zn NB577_0
       have hz61 := zc5 BK577.out
       have hn62 := zn NB566_0
       have hz63 := zc5 BK566.out
       obtain ⟨Ao64, co64, eo64⟩ := Kd.S_slice HO_578004.out
       subst eo64
       go_wp2
       refine bodyPost_ret (results_cell_row rfl _ _ gb566 26 #[.int .i64 t570, .int .i64 t576, .int .i64 x578002_25, .int .i64 x578003_25, .slice Ao64 x578004_3.length co64] (0, 0) _ rfl (zbp BK566.out) Try.underlying26 rfl (by kernel_rfl)) rfl ?_
       exact ⟨_, zq1, (by (with_reducible repeat (first | apply Kd.S_alloc | apply Kd.S_drewN | apply Kd.S_drew)); exact Kd.S_mono (Kd.S_far (p := ⟨gb566, 4, none⟩) (Kd.S_far (p := ⟨gb566, 3, none⟩) (Kd.S_far (p := ⟨gb566, 2, none⟩) (Kd.S_far (p := ⟨gb566, 1, none⟩) (Kd.S_far (p := ⟨gb566, 0, none⟩) (Kd.S_types HO_578004.out BK566.out zq52) (fun _ hk => hk.2) (.int .i64 t570)) (fun _ hk => hk.2) (.int .i64 t576)) (fun _ hk => hk.2) (.int .i64 x578002_25)) (fun _ hk => hk.2) (.int .i64 x578003_25)) (fun _ hk => hk.2) (.slice Ao64 x578004_3.length co64)) (fun _ hk => trivial)), zq27, zq41, zq36⟩

end Go.Proofs.Ytkcgghgkmgbphaa.PFnMsgs
