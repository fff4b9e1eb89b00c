-- WRITTEN BY a turned copy of the kit's printer (wip/patch_print.py), for this claim
import Derived.Test.YtkcgghgkmgbphaaPFnMsgsx0
import Derived.Test.YtkcgghgkmgbphaaPFnMsgsx15
import Derived.Test.YtkcgghgkmgbphaaPFnMsgsx16
namespace Go.Proofs.Ytkcgghgkmgbphaa.PFnMsgs
open Go.RowKit Go.Proofs.YtkcgghgkmgbphaaW.PrintWords Go.Proofs.YtkcgghgkmgbphaaW.PrintLast Go.Proofs.YtkcgghgkmgbphaaW.PrintMore
attribute [local go_sem] max2_int min2_int max_two min_two max_three min_three max_four min_four   -- for this text's walks alone
set_option linter.unusedVariables false
set_option linter.unusedSimpArgs false
set_option maxHeartbeats 8000000
set_option maxRecDepth 100000

attribute [local go_sem] cell_setCell_m
/-! ### spec_l2Any: function 179 -/
def spec_l2Any.l0 : Nat → List Int → List Int → Int → Int → Option (List Int × Int × Int)
 | 0, _, _, _, _ => none
 | k + 1, x3, x1000, x1001, x1002 => (spec_l1Below.f x1000 x1001 x1002 2).bind fun bt621 => (if (x3.length : Int) < (wrap64 (10 + bt621.1)) then (if x3.length < 17592186044416 then (spec_l2Any.l0 k (x3 ++ [1]) x1000 bt621.2.1 bt621.2.2) else (none)) else (some (x3, bt621.2.1, bt621.2.2)))
def spec_l2Any.f (k : Nat) (s0_0 : List Int) (s0_1 : Int) (s0_2 : Int) : Option (List Int × Int × Int) := (spec_l2Draw.f k s0_0 s0_1 s0_2).bind fun bt603 => ((spec_l1Below.f s0_0 bt603.2.1 bt603.2.2 10).bind fun bt608 => (if bt608.1 = 0 then (some ((([] : List Int)), bt608.2.1, bt608.2.2)) else (if bt608.1 = 1 then ((spec_l1Int.f s0_0 bt608.2.1 bt608.2.2 (([(-1), 100001] : List Int))).bind fun bt617 => (if 0 < (bt603.1.length : Int) then (some ((bt603.1.set (0 : Int).toNat bt617.1), bt617.2.1, bt617.2.2)) else (none))) else (if bt608.1 = 2 then (spec_l2Any.l0 k bt603.1 s0_0 bt608.2.1 bt608.2.2) else (some (bt603.1, bt608.2.1, bt608.2.2))))))
theorem spec_l2Any.mono_l : ∀ k, (∀ y0 y1 y2 y3, LeO (spec_l2Any.l0 k y0 y1 y2 y3) (spec_l2Any.l0 (k + 1) y0 y1 y2 y3))
 | 0 => fun _ _ _ _ r h => by simp [spec_l2Any.l0] at h
 | k + 1 => by
  have ih0 := spec_l2Any.mono_l k
  ·intro y0 y1 y2 y3
   unfold spec_l2Any.l0
   have m0_ := @spec_l2Draw.mono
   exact zR
theorem spec_l2Any.mono : ∀ a0 a1 a2 k, LeO (spec_l2Any.f k a0 a1 a2) (spec_l2Any.f (k + 1) a0 a1 a2) := by
 intro a0 a1 a2 k
 have ih0 := spec_l2Any.mono_l k
 unfold spec_l2Any.f
 have m0_ := @spec_l2Draw.mono
 exact zR
theorem spec_l2Any.calls (k : Nat) (g : Nat) (s0_0 : List Int) (s0_1 : Int) (s0_2 : Int) (r1 : List Int) (r2 : Int) (r3 : Int) (w0 w : World) (hI : IsS170 w0 w g s0_0 s0_1 s0_2) (hB : Below w0.heap.size w0 w) (h : spec_l2Any.f k s0_0 s0_1 s0_2 = some (r1, r2, r3)) :
  Calls Try.prog 179 #[.pointer (some ⟨g, 0, none⟩)] w fun e w' => ∃ v0_ : Value, e = .returned (v0_) ∧ Kd.R (Kd.int .i64) 3 w' w.heap.size (fun _ => True) v0_ r1 ∧ IsS170 w0 w' g s0_0 r2 r3 ∧ Below w0.heap.size w0 w' ∧ KeepBut w w' g none := by
 have HI0 := zA hI
 have HK := zA (KeepBut.refl w g none)
 have HL := zA hB.size
 clear hI
 have HW0 := zA hB.size
 have HB := zA hB
 clear hB
 unfold spec_l2Any.f at h
 have H := zA h
 clear h
 go_enter Try.func179, Try.ntmps179
 go_upto_region 0 with fail
 go_upto_region 1 with fail
 replace H := zB H; obtain ⟨⟨t603, t606, t607⟩, A4, H⟩ := H
 try dsimp only at H
 go_upto_region 2 with (first | ((with_reducible refine zg180 rfl ?_); refine zl180 (some 5) #[.pointer (some ⟨g, 0, none⟩)] ?_; (with_reducible refine (spec_l2Draw.calls k g s0_0 s0_1 s0_2 t603 t606 t607 w0 _ ?side1 ?side2 A4.out).mono ?_); (case side1 => exact zq3); (case side2 => exact zq6); rintro e w6 ⟨v604, rfl, ho0, hi, hb, hk⟩; refine ⟨_, rfl, ?_⟩; have HO605 := zA (Kd.R_lower ho0 (keep_size (w := w) (g := g) (row := none) zq2)); replace HK := zA (KeepBut.trans zq2 hk (.inl rfl)); replace HB := zA (hb); replace HI0 := zA (hi); clear hb hk hi ho0))
 (try simp only [zvs])
 replace H := zB H; obtain ⟨⟨t608, t609, t610⟩, A7, H⟩ := H
 try dsimp only at H
 go_upto_region 3 with (first | ((with_reducible refine zg131 rfl ?_); refine zl131 (some 7) #[.pointer (some ⟨g, 0, none⟩), .int .i64 10] ?_; (with_reducible refine (spec_l1Below.calls g s0_0 t606 t607 10 t608 t609 t610 w0 _ ?side1 ?side2 A7.out).mono ?_); (case side1 => exact zq3); (case side2 => exact zq6); rintro e w9 ⟨rfl, hi, hb, hk⟩; refine ⟨_, rfl, ?_⟩; replace HO605 := zA (Kd.R_mono (Kd.R_keep (IsS170.apart (show IsS170 w0 _ g s0_0 t606 t607 from zq3) (zrk HO605.out) zq52) hk (fun _ h => h.2)) (fun _ h => h.1)); replace HK := zA (KeepBut.trans zq2 hk (.inl rfl)); replace HB := zA (hb); replace HI0 := zA (hi); clear hb hk hi))
 (try simp only [zvs])
 replace H := zP H; rcases H with ⟨c10, H⟩ | ⟨c10, H⟩
 ·have c10b0 : (t608 == 0) = true := beq_iff_eq.mpr c10
  have c10b1 : (t608 != 0) = false := bne_eq_false_iff_eq.mpr c10
  clear c10
  go_upto_region 4 with fail
  obtain ⟨y611, hy611⟩ : ∃ y_ : List Int, y_ = (([] : List Int)) := ⟨_, rfl⟩
  rw [← hy611] at H
  have Ny611 := zA hy611
  clear hy611
  obtain ⟨rfl, rfl, rfl⟩ := zt3 H
  go_wp2_with (first | ((with_reducible refine gate_dst (N := 10) rfl ?_); refine Kd.R_lit (Kd.int .i64) _ 3 ?hg (N := 10) ?hd (xs := ([] : List Int)) (inner := []) (ok := fun _ => True) (okp := fun _ => True) ?hr ?hp (fun _ hk => hk) trivial (Below.refl _ _) (Nat.le_refl _) zq219 ?_; (case hd => rfl); (case hg => rfl); (case hr => exact zgs); (case hp => exact (Reps.none _ _)); intro v612 w12 ho13 hb hg_ hnew_; clear hg_ hnew_; (first | rw [← Ny611.out] at ho13 | (simp only [Int.reduceToNat] at ho13; rw [← Ny611.out] at ho13)); have HO613 := zA (Kd.R_lower (Kd.R_new' ho13 (Kd.R_lt (zrk HO605.out))) (keep_size (w := w) (g := g) (row := none) zq2)); replace HO605 := zA (Kd.R_elder' (zrk HO605.out) (Kd.R_base ho13) hb); replace HK := zA (KeepBut.trans zq2 (KeepBut.of_below hb g none) (.inl rfl)); replace HB := zA (below_step zq6 hb); replace HI0 := zA (IsS170.below zq3 hb); clear hb ho13))
  go_ret
  exact ⟨_, zq1, (by (with_reducible repeat (first | apply Kd.R_alloc | apply Kd.R_drewN | apply Kd.R_drew)); exact Kd.R_mono HO613.out (fun _ hk => trivial)), zq3, zq6, zq2⟩
 have c10b0 : (t608 == 0) = false := beq_eq_false_iff_ne.mpr c10
 have c10b1 : (t608 != 0) = true := bne_iff_ne.mpr c10
 go_upto_region 5 with fail
 replace H := zP H; rcases H with ⟨c15, H⟩ | ⟨c15, H⟩
 ·have c15b0 : (t608 == 1) = true := beq_iff_eq.mpr c15
  have c15b1 : (t608 != 1) = false := bne_eq_false_iff_eq.mpr c15
  clear c15
  go_upto_region 6 with fail
  obtain ⟨y614, hy614⟩ : ∃ y_ : List Int, y_ = (([(-1), 100001] : List Int)) := ⟨_, rfl⟩
  rw [← hy614] at H
  have Ny614 := zA hy614
  clear hy614
  replace H := zB H; obtain ⟨⟨t617, t618, t619⟩, A17, H⟩ := H
  try dsimp only at H
  replace H := zN H; obtain ⟨c18, H⟩ := H
  have c18b0 : decide (0 < (t603.length : Int)) = true := decide_eq_true c18
  have c18b1 : decide (0 < t603.length) = true := decide_eq_true zq183
  clear c18
  obtain ⟨y620, hy620⟩ : ∃ y_ : List Int, y_ = (t603.set (0 : Int).toNat t617) := ⟨_, rfl⟩
  rw [← hy620] at H
  have Ny620 := zA hy620
  clear hy620
  go_upto_region 10 with (first | ((with_reducible refine gate_dst (N := 15) rfl ?_); refine Kd.R_lit (Kd.int .i64) _ 3 ?hg (N := 15) ?hd (xs := ([(-1), 100001] : List Int)) (inner := [.int .i64 (-1), .int .i64 100001]) (ok := fun _ => True) (okp := fun _ => True) ?hr ?hp (fun _ hk => hk) trivial (Below.refl _ _) (Nat.le_refl _) zq219 ?_; (case hd => rfl); (case hg => rfl); (case hr => exact zgs); (case hp => exact (Reps.one (show Kd.M (Kd.int .i64) _ _ _ (-1) [.int .i64 (-1)] from rfl) (Reps.one (show Kd.M (Kd.int .i64) _ _ _ 100001 [.int .i64 100001] from rfl) (Reps.none _ _)))); intro v615 w21 ho22 hb hg_ hnew_; clear hg_ hnew_; (first | rw [← Ny614.out] at ho22 | (simp only [Int.reduceToNat] at ho22; rw [← Ny614.out] at ho22)); have HO616 := zA (Kd.R_lower (Kd.R_new' ho22 (Kd.R_lt (zrk HO605.out))) (keep_size (w := w) (g := g) (row := none) zq2)); replace HO605 := zA (Kd.R_elder' (zrk HO605.out) (Kd.R_base ho22) hb); replace HK := zA (KeepBut.trans zq2 (KeepBut.of_below hb g none) (.inl rfl)); replace HB := zA (below_step zq6 hb); replace HI0 := zA (IsS170.below zq3 hb); clear hb ho22; obtain ⟨Ao23, co23, eo23⟩ := Kd.R_slice HO616.out; subst eo23) | ((with_reducible refine zg140 rfl ?_); refine zl140 (some 16) #[.pointer (some ⟨g, 0, none⟩), .slice Ao23 y614.length co23] ?_; (with_reducible refine (spec_l1Int.calls g s0_0 t609 t610 _ _ y614 t617 t618 t619 w0 _ ?side1 ?side2 ?side3 ?side4 ?side5 A17.out).mono ?_); (case side1 => exact zq3); (case side2 => exact zq6); (case side3 => exact (zck (Kd.R_reads' HO616.out).2.2)); (case side4 => exact (Kd.R_reads' HO616.out).2.1); (case side5 => exact far_slice (IsS170.own_ne HI0.out HO616.out zq52)); rintro e w24 ⟨rfl, hi, hb, hk⟩; refine ⟨_, rfl, ?_⟩; replace HO605 := zA (Kd.R_mono (Kd.R_keep (IsS170.apart (show IsS170 w0 _ g s0_0 t609 t610 from zq3) (zrk HO605.out) zq52) hk (fun _ h => h.2)) (fun _ h => h.1)); replace HO616 := zA (Kd.R_mono (Kd.R_keep (IsS170.apart (show IsS170 w0 _ g s0_0 t609 t610 from zq3) (zrk HO616.out) zq52) hk (fun _ h => h.2)) (fun _ h => h.1)); replace HK := zA (KeepBut.trans zq2 hk (.inl rfl)); replace HB := zA (hb); replace HI0 := zA (hi); clear hb hk hi; have p19 : 0 ≤ (0 : Int) := zq183; have q19 : (0 : Int) < ((t603.length : Int) : Int) := of_decide_eq_true zq13; have qi19 : (0 < t603.length) = True := eq_true zq183; obtain ⟨go19, co19, eo19, gb19, gl19, cl19, HG19⟩ := Kd.R_form HO605.out zq183; (first | cases eo19 | (injection eo19 with ea_ en_ ec_; (first | subst ea_ | (injection ea_ with ea_; subst ea_)); subst ec_; clear en_)); have GB19 := zA gb19; have GG19 := zA HG19; clear gb19 gl19 HG19; obtain ⟨hx19_0, hf19_0⟩ := Kd.R_celln 0 HO605.out (0 : Int) p19 q19; (try rw [show ((0 : Int)).toNat = 0 from rfl] at hx19_0); (try simp only [Nat.reduceMul, Nat.zero_mul, Nat.zero_add, Nat.reduceAdd] at hx19_0); (try rw [show ((0 : Int)).toNat = 0 from rfl] at hf19_0); (try simp only [Nat.reduceMul, Nat.zero_mul, Nat.zero_add, Nat.reduceAdd] at hf19_0); replace p19 := eq_true p19; replace q19 := eq_true q19; have n_ := zA (Kd.R_mono (ok' := (fun k_ => some k_ ≠ (.slice Ao23 y614.length co23 : Value).ownBlock)) HO605.out (fun k_ hk => hk.2)); clear HO605; have HO605 := n_; clear n_; obtain ⟨hy25_, hz25_⟩ := Kd.R_celln 0 HO605.out (0 : Int) zq183 (of_decide_eq_true zq13); (try simp only [Int.reduceToNat, Int.toNat_zero, Int.toNat_ofNat, Nat.reduceMul, Nat.zero_mul, Nat.zero_add] at hy25_ hz25_); (try rw [show ((0 : Int)).toNat = 0 from rfl] at hy25_); (try rw [show ((0 : Int)).toNat = 0 from rfl] at hz25_); have HP25 := Kd.R_putg HO605.out (0 : Int) t617) | ((with_reducible refine gate_store (t := 3) (p := 17) rfl ?_); refine store_event (t := 3) (p := 17) (v := ?vo_w26) (w1 := (w24.setCell ⟨go19, (0 : Int).toNat, none⟩ (.int .i64 t617))) ?hg ?ho ?hn ?hr ?_; (case ho => rfl); (case hg => rfl); (case hn => rfl); (case hr => exact zgs); intro w26 hw; have hg : w24.grownBy w26 (some go19) := (by rw [hw]; exact HP25.2); have hp_ : Kd.R (Kd.int .i64) 3 w26 w.heap.size (fun k_ => some k_ ≠ (.slice Ao23 y614.length co23 : Value).ownBlock) (.slice (some ⟨go19, 0, none⟩) t603.length co19) y620 := (by rw [hw, Ny620.out]; exact HP25.1); clear HP25; replace HI0 := zA (IsS170.grown zq3 hg (IsS170.own_ne HI0.out HO605.out zq52)); replace HO616 := zA (Kd.R_after (v := (.slice (some ⟨go19, 0, none⟩) t603.length co19)) (v1 := (.slice (some ⟨go19, 0, none⟩) t603.length co19)) (ok := (fun _ => True)) (zrk HO616.out) hg (.inl rfl)); replace HB := zA ((by rw [hw]; exact below_set (HB.out) (Nat.le_trans HL.out GB19.out) : Below w0.heap.size w0 w26)); replace HK := zA (KeepBut.trans zq2 (KeepBut.of_grown hg g) (Kd.R_base2 HO605.out)); replace HO605 := zA (hp_); clear hg hw hp_))
  (try simp only [zvs])
  obtain ⟨rfl, rfl, rfl⟩ := zt3 H
  go_wp2
  go_ret
  exact ⟨_, zq1, (by (with_reducible repeat (first | apply Kd.R_alloc | apply Kd.R_drewN | apply Kd.R_drew)); exact Kd.R_mono HO605.out (fun _ hk => trivial)), zq3, zq6, zq2⟩
 have c15b0 : (t608 == 1) = false := beq_eq_false_iff_ne.mpr c15
 have c15b1 : (t608 != 1) = true := bne_iff_ne.mpr c15
 go_upto_region 7 with fail
 replace H := zP H; rcases H with ⟨c28, H⟩ | ⟨c28, H⟩
 ·have c28b0 : (t608 == 2) = true := beq_iff_eq.mpr c28
  have c28b1 : (t608 != 2) = false := bne_eq_false_iff_eq.mpr c28
  clear c28
  have H' := H; clear H
  go_wp2
  go_loopg [3] k (fun kq v3 w' => ∃ (x3_1 : List Int) (x1001_1 : Int) (x1002_1 : Int), Aside0 (spec_l2Any.l0 kq x3_1 s0_0 x1001_1 x1002_1 = some (r1, r2, r3)) ∧ Aside0 (kq ≤ k) ∧ Aside0 (Kd.R (Kd.int .i64) 3 w' w.heap.size (fun _ => True) v3 x3_1) ∧ Aside0 (IsS170 w0 w' g s0_0 x1001_1 x1002_1) ∧ Aside0 (KeepBut w w' g none) ∧ Aside0 (Below w0.heap.size w0 w'))
  case atStart => exact ⟨(t603), (t609), (t610), H', ⟨Nat.le_refl _⟩, ⟨(zrk HO605.out)⟩, ⟨zq3⟩, ⟨zq2⟩, ⟨zq6⟩⟩
  case round =>
   clear H'
   try clear c1
   try clear p1
   try clear q1
   try clear hx1
   try clear qi1
   try clear hf1
   try clear c2
   try clear p2
   try clear c10
   try clear c10b0
   try clear c10b1
   try clear c13
   try clear c14
   try clear c15
   try clear c15b0
   try clear c15b1
   try clear c17
   try clear c18
   try clear c18b0
   try clear c18b1
   try clear p19
   try clear q19
   try clear hx19
   try clear qi19
   try clear hf19
   try clear c28
   try clear c28b0
   try clear c28b1
   try clear hx19_0
   try clear p19
   try clear q19
   obtain ⟨x3_1, x1001_1, x1002_1, HA, HK1, HO_3, HI0, HK, HB⟩ := hrel
   cases gk with
   | zero => exact absurd HA.out (by simp [spec_l2Any.l0])
   | succ k1 =>
    have H := HA
    clear HA
    simp only [spec_l2Any.l0] at H
    go_upto_region 8 with fail
    replace H := zB H; obtain ⟨⟨t621, t622, t623⟩, A30, H⟩ := H
    try dsimp only at H
    replace H := zPd H; rcases H with ⟨c31b0, H⟩ | ⟨c31b0, H⟩
    ·obtain ⟨Ao33, co33, eo33⟩ := Kd.R_slice HO_3.out
     subst eo33
     go_upto_region 9 with (first | ((with_reducible refine zg131 rfl ?_); refine zl131 (some 23) #[.pointer (some ⟨g, 0, none⟩), .int .i64 2] ?_; (with_reducible refine (spec_l1Below.calls g s0_0 x1001_1 x1002_1 2 t621 t622 t623 w0 _ ?side1 ?side2 A30.out).mono ?_); (case side1 => exact zq3); (case side2 => exact zq6); rintro e w34 ⟨rfl, hi, hb, hk⟩; refine ⟨_, rfl, ?_⟩; replace HO_3 := zA (Kd.R_mono (Kd.R_keep (IsS170.apart (show IsS170 w0 _ g s0_0 x1001_1 x1002_1 from zq3) zq8 zq52) hk (fun _ h => h.2)) (fun _ h => h.1)); replace HK := zA (KeepBut.trans zq2 hk (.inl rfl)); replace HB := zA (hb); replace HI0 := zA (hi); clear hb hk hi))
     (try simp only [zvs])
     replace H := zN H; obtain ⟨c35, H⟩ := H
     have LMc35 := zA c35
     clear c35
     obtain ⟨y624, hy624⟩ : ∃ y_ : List Int, y_ = (x3_1 ++ [1]) := ⟨_, rfl⟩
     rw [← hy624] at H
     have Ny624 := zA hy624
     clear hy624
     have H' := H; clear H
     go_wp2_with (first | ((with_reducible refine gate_builtin (b := .append) (xs := #[.tmp 26, .tmp 27]) rfl ?_); at_builtin; refine Kd.R_append (Kd.int .i64) w.heap.size rfl (.tmp 26) (.tmp 27) 71 3 (.int .i64 0) 8 rfl Try.underlying71 info3 rfl zq52 zq183 (.slice Ao33 x3_1.length co33) x3_1 1 [.int .i64 1] (fun _ => True) (fun _ => False) rfl rfl ?aP (fun _ hk => hk.elim) ?aF ?aO (Below.refl _ _) ?aS ?aL ?_; (case aP => exact rfl); (case aF => exact (fun _ _ => trivial)); (case aO => exact zq8); (case aS => exact (keep_size (w := w) (g := g) (row := none) zq2)); (case aL => have := LMc35.out; omega); intro v625 w36 ho hb hg hat; rw [← Ny624.out] at ho; replace HB := zA (below_weaken zq6 HL.out hb); replace HI0 := zA (IsS170.grown zq3 hg (IsS170.own_ne HI0.out HO_3.out zq52)); replace HK := zA (KeepBut.trans zq2 (KeepBut.of_grown hg g) (Kd.R_base2 HO_3.out)); have HO626 := zA (ho); clear HO_3; clear ho hb hg hat))
     go_roundg k1
     case measure => have := HK1.out; omega
     case rel => exact ⟨(y624), (t622), (t623), H', ⟨zq182⟩, ⟨(zrk HO626.out)⟩, ⟨zq3⟩, ⟨zq2⟩, ⟨zq6⟩⟩
    obtain ⟨Ao38, co38, eo38⟩ := Kd.R_slice HO_3.out
    subst eo38
    go_upto_region 10 with (first | ((with_reducible refine zg131 rfl ?_); refine zl131 (some 23) #[.pointer (some ⟨g, 0, none⟩), .int .i64 2] ?_; (with_reducible refine (spec_l1Below.calls g s0_0 x1001_1 x1002_1 2 t621 t622 t623 w0 _ ?side1 ?side2 A30.out).mono ?_); (case side1 => exact zq3); (case side2 => exact zq6); rintro e w39 ⟨rfl, hi, hb, hk⟩; refine ⟨_, rfl, ?_⟩; replace HO_3 := zA (Kd.R_mono (Kd.R_keep (IsS170.apart (show IsS170 w0 _ g s0_0 x1001_1 x1002_1 from zq3) zq8 zq52) hk (fun _ h => h.2)) (fun _ h => h.1)); replace HK := zA (KeepBut.trans zq2 hk (.inl rfl)); replace HB := zA (hb); replace HI0 := zA (hi); clear hb hk hi))
    (try simp only [zvs])
    obtain ⟨rfl, rfl, rfl⟩ := zt3 H
    go_wp2
    go_ret
    exact ⟨_, zq1, zq8, zq3, zq6, zq2⟩
 have c28b0 : (t608 == 2) = false := beq_eq_false_iff_ne.mpr c28
 have c28b1 : (t608 != 2) = true := bne_iff_ne.mpr c28
 go_upto_region 10 with fail
 obtain ⟨rfl, rfl, rfl⟩ := zt3 H
 go_wp2
 go_ret
 exact ⟨_, zq1, (zrk HO605.out), zq3, zq6, zq2⟩

/-! ### spec_l3Any: function 167 -/
def spec_l3Any.f (k : Nat) (s0_0 : List Int) (s0_1 : Int) (s0_2 : Int) : Option (Int × Int × ByteArray × List Int × Int × Int) := (spec_l3Draw.f k s0_0 s0_1 s0_2).bind fun bt628 => ((spec_l1Below.f s0_0 bt628.2.2.2.2.1 bt628.2.2.2.2.2 12).bind fun bt637 => (if bt637.1 = 0 then ((spec_l1Int.f s0_0 bt637.2.1 bt637.2.2 (([0, 1, 2, 4, 5, 6, 128, 129, 130] : List Int))).bind fun bt643 => (some (bt643.1, bt628.2.1, bt628.2.2.1, bt628.2.2.2.1, bt643.2.1, bt643.2.2))) else (if bt637.1 = 1 then ((spec_l1Num.f s0_0 bt637.2.1 bt637.2.2).bind fun bt646 => (some (bt628.1, bt646.1, bt628.2.2.1, bt628.2.2.2.1, bt646.2.1, bt646.2.2))) else (if bt637.1 = 2 then ((spec_l1Below.f s0_0 bt637.2.1 bt637.2.2 2).bind fun bt649 => (if 0 ≤ (wrap64 (20 + bt649.1)) then (if (wrap64 (20 + bt649.1) : Int).toNat ≤ 281474976710656 then (some (bt628.1, bt628.2.1, strOfNums (List.replicate (wrap64 (20 + bt649.1) : Int).toNat 0), bt628.2.2.2.1, bt649.2.1, bt649.2.2)) else (none)) else (none))) else (if bt637.1 = 3 then ((spec_l2Any.f k s0_0 bt637.2.1 bt637.2.2).bind fun bt655 => (some (bt628.1, bt628.2.1, bt628.2.2.1, bt655.1, bt655.2.1, bt655.2.2))) else (some (bt628.1, bt628.2.1, bt628.2.2.1, bt628.2.2.2.1, bt637.2.1, bt637.2.2)))))))
theorem spec_l3Any.mono : ∀ a0 a1 a2 k, LeO (spec_l3Any.f k a0 a1 a2) (spec_l3Any.f (k + 1) a0 a1 a2) := by
 intro a0 a1 a2 k
 unfold spec_l3Any.f
 have m0_ := @spec_l2Any.mono
 have m1_ := @spec_l3Draw.mono
 exact zR
theorem spec_l3Any.calls (k : Nat) (g : Nat) (s0_0 : List Int) (s0_1 : Int) (s0_2 : Int) (r1 : Int) (r2 : Int) (r3 : ByteArray) (r4 : List Int) (r5 : Int) (r6 : Int) (w0 w : World) (hI : IsS170 w0 w g s0_0 s0_1 s0_2) (hB : Below w0.heap.size w0 w) (h : spec_l3Any.f k s0_0 s0_1 s0_2 = some (r1, r2, r3, r4, r5, r6)) :
  Calls Try.prog 167 #[.pointer (some ⟨g, 0, none⟩)] w fun e w' => ∃ v3_ : Value, e = .returned (.agg #[.int .i64 r1, .int .i64 r2, .string r3, v3_]) ∧ Kd.R (Kd.int .i64) 3 w' w.heap.size (fun _ => True) v3_ r4 ∧ IsS170 w0 w' g s0_0 r5 r6 ∧ Below w0.heap.size w0 w' ∧ KeepBut w w' g none := by
 have hu76 := Try.underlying76
 have HI0 := zA hI
 have HK := zA (KeepBut.refl w g none)
 have HL := zA hB.size
 clear hI
 have HW0 := zA hB.size
 have HB := zA hB
 clear hB
 unfold spec_l3Any.f at h
 have H := zA h
 clear h
 go_enter Try.func167, Try.ntmps167
 go_upto_region 0 with fail
 go_upto_region 1 with (first | ((with_reducible refine gate_dst (N := 2) rfl ?_); refine box_event ?hg (N := 2) ?hd (cs := #[.int .i64 0, .int .i64 0, .string (⟨#[]⟩ : ByteArray), .slice none 0 0]) (t := 76) ?hr ?_; (case hd => rfl); (case hg => rfl); (case hr => exact zgs); intro gb627 hg w4 hbox hb; replace HB := zA (below_step zq6 hb); have BK627 := zA (hbox); have GW627 := zA ((zq77 : w.heap.size ≤ gb627)); have GE627 := zA ((Nat.le_trans HW0.out (zq77 : w.heap.size ≤ gb627) : w0.heap.size ≤ gb627)); replace HK := zA (KeepBut.trans zq2 (KeepBut.of_below hb g none) (.inl rfl)); have NB0_627 := zA ((zq122 : g ≠ gb627)); have NB627_0 := zA ((zq123 : gb627 ≠ g)); replace HI0 := zA (IsS170.below zq3 hb); clear hb hbox hg))
 (try simp only [zvs])
 replace H := zB H; obtain ⟨⟨t628, t629, t630, t631, t634, t635⟩, A5, H⟩ := H
 try dsimp only at H
 go_upto_region 2 with (first | ((with_reducible refine zg168 rfl ?_); refine zl168 (some 5) #[.pointer (some ⟨g, 0, none⟩)] ?_; (with_reducible refine (spec_l3Draw.calls k g s0_0 s0_1 s0_2 t628 t629 t630 t631 t634 t635 w0 _ ?side1 ?side2 A5.out).mono ?_); (case side1 => exact zq141); (case side2 => exact zq248); rintro e w7 ⟨v632, rfl, ho0, hi, hb, hk⟩; refine ⟨_, rfl, ?_⟩; replace BK627 := zA (zkb hk BK627.out NB627_0.out); have HO633 := zA (Kd.R_lower ho0 (keep_size (w := w) (g := g) (row := none) zq134)); replace HK := zA (KeepBut.trans zq134 hk (.inl rfl)); replace HB := zA (hb); replace HI0 := zA (hi); clear hb hk hi ho0) | ((with_reducible refine gate_dst (N := 3) rfl ?_); refine box_event ?hg (N := 3) ?hd (cs := #[.int .i64 0, .int .i64 0, .string (⟨#[]⟩ : ByteArray), .slice none 0 0]) (t := 76) ?hr ?_; (case hd => rfl); (case hg => rfl); (case hr => exact zgs); intro gb636 hg w8 hbox hb; replace HO633 := zA (Kd.R_below (zrk HO633.out) hb); replace HB := zA (below_step zq248 hb); have BK636 := zA (hbox); have GW636 := zA ((zq228 : w.heap.size ≤ gb636)); have GE636 := zA ((Nat.le_trans HW0.out (zq228 : w.heap.size ≤ gb636) : w0.heap.size ≤ gb636)); replace HK := zA (KeepBut.trans zq134 (KeepBut.of_below hb g none) (.inl rfl)); have NB627_636 := zA ((by rw [hg]; exact Nat.ne_of_lt (blk_lt (g := gb627) (o := .cells #[.int .i64 0, .int .i64 0, .string (⟨#[]⟩ : ByteArray), .slice none 0 0] 76 (0, 0)) (zbk BK627.out)) : gb627 ≠ gb636)); have NB636_627 := zA ((by rw [hg]; exact Nat.ne_of_gt (blk_lt (g := gb627) (o := .cells #[.int .i64 0, .int .i64 0, .string (⟨#[]⟩ : ByteArray), .slice none 0 0] 76 (0, 0)) (zbk BK627.out)) : gb636 ≠ gb627)); replace BK627 := zA (zbb BK627.out hb); have NB0_636 := zA ((by rw [hg]; exact Nat.ne_of_lt (IsS170.lt (show IsS170 w0 _ g s0_0 t634 t635 from zq141)) : g ≠ gb636)); have NB636_0 := zA ((by rw [hg]; exact Nat.ne_of_gt (IsS170.lt (show IsS170 w0 _ g s0_0 t634 t635 from zq141)) : gb636 ≠ g)); replace HI0 := zA (IsS170.below zq141 hb); clear hb hbox hg; have hn9 := zn NB636_627; have hn10 := zn NB636_0; have hz11 := zc4 BK636.out; obtain ⟨Ao12, co12, eo12⟩ := Kd.R_slice HO633.out; subst eo12))
 (try simp only [zvs])
 replace H := zB H; obtain ⟨⟨t637, t638, t639⟩, A13, H⟩ := H
 try dsimp only at H
 go_upto_region 3 with (first | ((with_reducible refine zg131 rfl ?_); refine zl131 (some 7) #[.pointer (some ⟨g, 0, none⟩), .int .i64 12] ?_; (with_reducible refine (spec_l1Below.calls g s0_0 t634 t635 12 t637 t638 t639 w0 _ ?side1 ?side2 A13.out).mono ?_); (case side1 => exact zq24); (case side2 => exact zq45); rintro e w15 ⟨rfl, hi, hb, hk⟩; refine ⟨_, rfl, ?_⟩; replace BK627 := zA (KeepBut.blk hk (g' := gb627) (o := .cells #[.int .i64 0, .int .i64 0, .string (⟨#[]⟩ : ByteArray), .slice none 0 0] 76 (0, 0)) (zbf BK627.out) NB627_0.out zq219); replace HO633 := zA (Kd.R_mono (Kd.R_keep (IsS170.apart (show IsS170 w0 _ g s0_0 t634 t635 from zq24) (by (with_reducible repeat (first | apply Kd.R_alloc | apply Kd.R_drewN | apply Kd.R_drew)); exact (Kd.R_mono (Kd.R_far (p := ⟨gb636, 3, none⟩) (Kd.R_far (p := ⟨gb636, 2, none⟩) (Kd.R_far (p := ⟨gb636, 1, none⟩) (Kd.R_far (p := ⟨gb636, 0, none⟩) (Kd.R_types HO633.out BK636.out zq52) (fun _ hk => hk.2) (.int .i64 t628)) (fun _ hk => hk.2) (.int .i64 t629)) (fun _ hk => hk.2) (.string t630)) (fun _ hk => hk.2) (.slice Ao12 t631.length co12)) (fun _ h_ => h_.1))) zq52) hk (fun _ h => h.2)) (fun _ h => h.1)); replace BK636 := zA (KeepBut.blk hk (g' := gb636) (o := .cells #[.int .i64 t628, .int .i64 t629, .string t630, .slice Ao12 t631.length co12] 76 (0, 0)) (zbp BK636.out) NB636_0.out zq219); replace HK := zA (KeepBut.trans zq38 hk (.inl rfl)); replace HB := zA (hb); replace HI0 := zA (hi); clear hb hk hi))
 (try simp only [zvs])
 replace H := zP H; rcases H with ⟨c16, H⟩ | ⟨c16, H⟩
 ·have c16b0 : (t637 == 0) = true := beq_iff_eq.mpr c16
  have c16b1 : (t637 != 0) = false := bne_eq_false_iff_eq.mpr c16
  clear c16
  go_upto_region 4 with fail
  obtain ⟨y640, hy640⟩ : ∃ y_ : List Int, y_ = (([0, 1, 2, 4, 5, 6, 128, 129, 130] : List Int)) := ⟨_, rfl⟩
  rw [← hy640] at H
  have Ny640 := zA hy640
  clear hy640
  replace H := zB H; obtain ⟨⟨t643, t644, t645⟩, A18, H⟩ := H
  try dsimp only at H
  go_upto_region 11 with (first | ((with_reducible refine gate_dst (N := 11) rfl ?_); refine Kd.R_lit (Kd.int .i64) _ 3 ?hg (N := 11) ?hd (xs := ([0, 1, 2, 4, 5, 6, 128, 129, 130] : List Int)) (inner := [.int .i64 0, .int .i64 1, .int .i64 2, .int .i64 4, .int .i64 5, .int .i64 6, .int .i64 128, .int .i64 129, .int .i64 130]) (ok := fun _ => True) (okp := fun _ => True) ?hr ?hp (fun _ hk => hk) trivial (Below.refl _ _) (Nat.le_refl _) zq219 ?_; (case hd => rfl); (case hg => rfl); (case hr => exact zgs); (case hp => exact (Reps.one (show Kd.M (Kd.int .i64) _ _ _ 0 [.int .i64 0] from rfl) (Reps.one (show Kd.M (Kd.int .i64) _ _ _ 1 [.int .i64 1] from rfl) (Reps.one (show Kd.M (Kd.int .i64) _ _ _ 2 [.int .i64 2] from rfl) (Reps.one (show Kd.M (Kd.int .i64) _ _ _ 4 [.int .i64 4] from rfl) (Reps.one (show Kd.M (Kd.int .i64) _ _ _ 5 [.int .i64 5] from rfl) (Reps.one (show Kd.M (Kd.int .i64) _ _ _ 6 [.int .i64 6] from rfl) (Reps.one (show Kd.M (Kd.int .i64) _ _ _ 128 [.int .i64 128] from rfl) (Reps.one (show Kd.M (Kd.int .i64) _ _ _ 129 [.int .i64 129] from rfl) (Reps.one (show Kd.M (Kd.int .i64) _ _ _ 130 [.int .i64 130] from rfl) (Reps.none _ _))))))))))); intro v641 w20 ho21 hb hg_ hnew_; clear hg_ hnew_; (first | rw [← Ny640.out] at ho21 | (simp only [Int.reduceToNat] at ho21; rw [← Ny640.out] at ho21)); have HO642 := zA (Kd.R_lower (Kd.R_new' ho21 (Kd.R_lt (zrk HO633.out))) (keep_size (w := w) (g := g) (row := none) zq38)); replace HO633 := zA (Kd.R_elder' (zrk HO633.out) (Kd.R_base ho21) hb); replace BK627 := zA (zbb BK627.out hb); replace BK636 := zA (zbb BK636.out hb); replace HK := zA (KeepBut.trans zq38 (KeepBut.of_below hb g none) (.inl rfl)); replace HB := zA (below_step zq45 hb); replace HI0 := zA (IsS170.below zq24 hb); clear hb ho21; obtain ⟨Ao22, co22, eo22⟩ := Kd.R_slice HO642.out; subst eo22) | ((with_reducible refine zg140 rfl ?_); refine zl140 (some 12) #[.pointer (some ⟨g, 0, none⟩), .slice Ao22 y640.length co22] ?_; (with_reducible refine (spec_l1Int.calls g s0_0 t638 t639 _ _ y640 t643 t644 t645 w0 _ ?side1 ?side2 ?side3 ?side4 ?side5 A18.out).mono ?_); (case side1 => exact zq24); (case side2 => exact zq45); (case side3 => exact (zck (Kd.R_reads' HO642.out).2.2)); (case side4 => exact (Kd.R_reads' HO642.out).2.1); (case side5 => exact far_slice (IsS170.own_ne HI0.out HO642.out zq52)); rintro e w23 ⟨rfl, hi, hb, hk⟩; refine ⟨_, rfl, ?_⟩; replace BK627 := zA (zkb hk BK627.out NB627_0.out); replace HO633 := zA (Kd.R_mono (Kd.R_keep (IsS170.apart (show IsS170 w0 _ g s0_0 t638 t639 from zq24) (zrk HO633.out) zq52) hk (fun _ h => h.2)) (fun _ h => h.1)); replace BK636 := zA (zkb hk BK636.out NB636_0.out); replace HO642 := zA (Kd.R_mono (Kd.R_keep (IsS170.apart (show IsS170 w0 _ g s0_0 t638 t639 from zq24) (zrk HO642.out) zq52) hk (fun _ h => h.2)) (fun _ h => h.1)); replace HK := zA (KeepBut.trans zq38 hk (.inl rfl)); replace HB := zA (hb); replace HI0 := zA (hi); clear hb hk hi; have hn24 := zn NB636_627; have hn25 := zn NB636_0; have hz26 := zc4 BK636.out))
  (try simp only [zvs])
  obtain ⟨rfl, rfl, rfl, rfl, rfl, rfl⟩ := zt6 H
  have hn27 := zn NB636_627
  have hn28 := zn NB636_0
  have hz29 := zc4 BK636.out
  have hn30 := zn NB627_0
  have hz31 := zc4 BK627.out
  go_wp2
  refine bodyPost_ret (results_cell_row rfl _ _ gb627 76 #[.int .i64 t643, .int .i64 t629, .string t630, .slice Ao12 t631.length co12] (0, 0) _ rfl (zbp BK627.out) Try.underlying76 rfl (by kernel_rfl)) rfl ?_
  exact ⟨_, zq1, (by (with_reducible repeat (first | apply Kd.R_alloc | apply Kd.R_drewN | apply Kd.R_drew)); exact Kd.R_mono (Kd.R_far (p := ⟨gb627, 3, none⟩) (Kd.R_far (p := ⟨gb627, 2, none⟩) (Kd.R_far (p := ⟨gb627, 1, none⟩) (Kd.R_far (p := ⟨gb627, 0, none⟩) (Kd.R_far (p := ⟨gb636, 0, none⟩) (Kd.R_types (Kd.R_types HO633.out BK636.out zq52) BK627.out zq52) (fun _ hk => hk.1.2) (.int .i64 t643)) (fun _ hk => hk.2) (.int .i64 t643)) (fun _ hk => hk.2) (.int .i64 t629)) (fun _ hk => hk.2) (.string t630)) (fun _ hk => hk.2) (.slice Ao12 t631.length co12)) (fun _ hk => trivial)), zq24, zq45, zq38⟩
 have c16b0 : (t637 == 0) = false := beq_eq_false_iff_ne.mpr c16
 have c16b1 : (t637 != 0) = true := bne_iff_ne.mpr c16
 go_upto_region 5 with fail
 replace H := zP H; rcases H with ⟨c33, H⟩ | ⟨c33, H⟩
 ·have c33b0 : (t637 == 1) = true := beq_iff_eq.mpr c33
  have c33b1 : (t637 != 1) = false := bne_eq_false_iff_eq.mpr c33
  clear c33
  go_upto_region 6 with fail
  replace H := zB H; obtain ⟨⟨t646, t647, t648⟩, A35, H⟩ := H
  try dsimp only at H
  go_upto_region 11 with (first | ((with_reducible refine zg181 rfl ?_); refine zl181 (some 17) #[.pointer (some ⟨g, 0, none⟩)] ?_; (with_reducible refine (spec_l1Num.calls g s0_0 t638 t639 t646 t647 t648 w0 _ ?side1 ?side2 A35.out).mono ?_); (case side1 => exact zq24); (case side2 => exact zq45); rintro e w37 ⟨rfl, hi, hb, hk⟩; refine ⟨_, rfl, ?_⟩; replace BK627 := zA (zkb hk BK627.out NB627_0.out); replace HO633 := zA (Kd.R_mono (Kd.R_keep (IsS170.apart (show IsS170 w0 _ g s0_0 t638 t639 from zq24) (zrk HO633.out) zq52) hk (fun _ h => h.2)) (fun _ h => h.1)); replace BK636 := zA (zkb hk BK636.out NB636_0.out); replace HK := zA (KeepBut.trans zq38 hk (.inl rfl)); replace HB := zA (hb); replace HI0 := zA (hi); clear hb hk hi; have hn38 := zn NB636_627; have hn39 := zn NB636_0; have hz40 := zc4 BK636.out))
  (try simp only [zvs])
  obtain ⟨rfl, rfl, rfl, rfl, rfl, rfl⟩ := zt6 H
  have hn41 := zn NB636_627
  have hn42 := zn NB636_0
  have hz43 := zc4 BK636.out
  have hn44 := zn NB627_0
  have hz45 := zc4 BK627.out
  go_wp2
  refine bodyPost_ret (results_cell_row rfl _ _ gb627 76 #[.int .i64 t628, .int .i64 t646, .string t630, .slice Ao12 t631.length co12] (0, 0) _ rfl (zbp BK627.out) Try.underlying76 rfl (by kernel_rfl)) rfl ?_
  exact ⟨_, zq1, (by (with_reducible repeat (first | apply Kd.R_alloc | apply Kd.R_drewN | apply Kd.R_drew)); exact Kd.R_mono (Kd.R_far (p := ⟨gb627, 3, none⟩) (Kd.R_far (p := ⟨gb627, 2, none⟩) (Kd.R_far (p := ⟨gb627, 1, none⟩) (Kd.R_far (p := ⟨gb627, 0, none⟩) (Kd.R_far (p := ⟨gb636, 1, none⟩) (Kd.R_types (Kd.R_types HO633.out BK636.out zq52) BK627.out zq52) (fun _ hk => hk.1.2) (.int .i64 t646)) (fun _ hk => hk.2) (.int .i64 t628)) (fun _ hk => hk.2) (.int .i64 t646)) (fun _ hk => hk.2) (.string t630)) (fun _ hk => hk.2) (.slice Ao12 t631.length co12)) (fun _ hk => trivial)), zq24, zq45, zq38⟩
 have c33b0 : (t637 == 1) = false := beq_eq_false_iff_ne.mpr c33
 have c33b1 : (t637 != 1) = true := bne_iff_ne.mpr c33
 go_upto_region 7 with fail
 replace H := zP H; rcases H with ⟨c47, H⟩ | ⟨c47, H⟩
 ·have c47b0 : (t637 == 2) = true := beq_iff_eq.mpr c47
  have c47b1 : (t637 != 2) = false := bne_eq_false_iff_eq.mpr c47
  clear c47
  go_upto_region 8 with fail
  replace H := zB H; obtain ⟨⟨t649, t650, t651⟩, A49, H⟩ := H
  try dsimp only at H
  obtain ⟨ji50, hji50⟩ : ∃ j_ : Int, (wrap64 (20 + t649)) = j_ := ⟨_, rfl⟩
  replace H : Aside0 ((if 0 ≤ (ji50) then (if (ji50 : Int).toNat ≤ 281474976710656 then (some (t628, t629, strOfNums (List.replicate (ji50 : Int).toNat 0), t631, t650, t651)) else (none)) else (none)) = some (r1, r2, r3, r4, r5, r6)) := by first | (rw [hji50] at H; exact H) | (simp only [hji50] at H ⊢; exact H)
  (try rw [hji50] at A49)
  have hji50w : (IntKind.i64.wrap (20 + t649)) = ji50 := (i64_w _).trans hji50
  replace H := zN H; obtain ⟨c51, H⟩ := H
  have c51b0 := eq_true c51
  have c51b1 : decide (0 ≤ (ji50)) = true := decide_eq_true c51
  clear c51
  replace H := zN H; obtain ⟨c52, H⟩ := H
  have c52b0 := eq_true c52
  have c52b1 : decide ((ji50 : Int).toNat ≤ 281474976710656) = true := decide_eq_true c52
  clear c52
  obtain ⟨y652, hy652⟩ : ∃ y_ : List Int, y_ = (List.replicate (ji50 : Int).toNat 0) := ⟨_, rfl⟩
  rw [← hy652] at H
  have Ny652 := zA hy652
  clear hy652
  go_upto_region 11 with (first | ((with_reducible refine zg131 rfl ?_); refine zl131 (some 22) #[.pointer (some ⟨g, 0, none⟩), .int .i64 2] ?_; (with_reducible refine (spec_l1Below.calls g s0_0 t638 t639 2 t649 t650 t651 w0 _ ?side1 ?side2 A49.out).mono ?_); (case side1 => exact zq24); (case side2 => exact zq45); rintro e w54 ⟨rfl, hi, hb, hk⟩; refine ⟨_, rfl, ?_⟩; replace BK627 := zA (zkb hk BK627.out NB627_0.out); replace HO633 := zA (Kd.R_mono (Kd.R_keep (IsS170.apart (show IsS170 w0 _ g s0_0 t638 t639 from zq24) (zrk HO633.out) zq52) hk (fun _ h => h.2)) (fun _ h => h.1)); replace BK636 := zA (zkb hk BK636.out NB636_0.out); replace HK := zA (KeepBut.trans zq38 hk (.inl rfl)); replace HB := zA (hb); replace HI0 := zA (hi); clear hb hk hi) | ((with_reducible refine gate_dst (N := 24) rfl ?_); refine Kd.R_make (Kd.int .u8) _ 5 rfl (N := 24) rfl 22 _ _ rfl ji50 rfl rfl Try.underlying22 (.int .u8 0) 1 info5 rfl zq52 zq183 0 (ok := fun _ => True) (okp := fun _ => True) rfl (fun _ hk => hk) trivial (of_decide_eq_true zq13) (Nat.le_trans (Nat.mul_le_mul_right _ (of_decide_eq_true zq13 : ji50.toNat ≤ 281474976710656)) zq183) (Below.refl _ _) (Nat.le_refl _) ?_; intro v653 w55 ho56 hb hg_ hnew_; clear hg_ hnew_; (first | rw [← Ny652.out] at ho56 | (simp only [Int.reduceToNat] at ho56; rw [← Ny652.out] at ho56)); replace HO633 := zA (Kd.R_below (zrk HO633.out) hb); have HO654 := zA (Kd.R_lower ho56 (keep_size (w := w) (g := g) (row := none) zq38)); replace BK627 := zA (zbb BK627.out hb); replace BK636 := zA (zbb BK636.out hb); replace HK := zA (KeepBut.trans zq38 (KeepBut.of_below hb g none) (.inl rfl)); replace HB := zA (below_step zq45 hb); replace HI0 := zA (IsS170.below zq24 hb); clear hb ho56; have hcv57 := own_string (P := Try.prog) Try.underlying22 Try.underlying5 Try.underlying9 (Kd.own_of_R HO654.out); have hn58 := zn NB636_627; have hn59 := zn NB636_0; have hz60 := zc4 BK636.out))
  (try simp only [zvs])
  obtain ⟨rfl, rfl, rfl, rfl, rfl, rfl⟩ := zt6 H
  have hn61 := zn NB636_627
  have hn62 := zn NB636_0
  have hz63 := zc4 BK636.out
  have hn64 := zn NB627_0
  have hz65 := zc4 BK627.out
  go_wp2
  refine bodyPost_ret (results_cell_row rfl _ _ gb627 76 #[.int .i64 t628, .int .i64 t629, .string (strOfNums y652), .slice Ao12 t631.length co12] (0, 0) _ rfl (zbp BK627.out) Try.underlying76 rfl (by kernel_rfl)) rfl ?_
  exact ⟨_, (by first | rfl | (simp [errW_none, errW_some] <;> rfl) | (simp only [← hji50]; first | rfl | (simp [errW_none, errW_some] <;> rfl)) | (simp [*, errW_none, errW_some] <;> rfl)), (by (with_reducible repeat (first | apply Kd.R_alloc | apply Kd.R_drewN | apply Kd.R_drew)); exact Kd.R_mono (Kd.R_far (p := ⟨gb627, 3, none⟩) (Kd.R_far (p := ⟨gb627, 2, none⟩) (Kd.R_far (p := ⟨gb627, 1, none⟩) (Kd.R_far (p := ⟨gb627, 0, none⟩) (Kd.R_far (p := ⟨gb636, 2, none⟩) (Kd.R_types (Kd.R_types HO633.out BK636.out zq52) BK627.out zq52) (fun _ hk => hk.1.2) (.string (strOfNums y652))) (fun _ hk => hk.2) (.int .i64 t628)) (fun _ hk => hk.2) (.int .i64 t629)) (fun _ hk => hk.2) (.string (strOfNums y652))) (fun _ hk => hk.2) (.slice Ao12 t631.length co12)) (fun _ hk => trivial)), zq24, zq45, zq38⟩
 have c47b0 : (t637 == 2) = false := beq_eq_false_iff_ne.mpr c47
 have c47b1 : (t637 != 2) = true := bne_iff_ne.mpr c47
 go_upto_region 9 with fail
 replace H := zP H; rcases H with ⟨c67, H⟩ | ⟨c67, H⟩
 ·have c67b0 : (t637 == 3) = true := beq_iff_eq.mpr c67
  have c67b1 : (t637 != 3) = false := bne_eq_false_iff_eq.mpr c67
  clear c67
  go_upto_region 10 with fail
  replace H := zB H; obtain ⟨⟨t655, t658, t659⟩, A69, H⟩ := H
  try dsimp only at H
  go_upto_region 11 with (first | ((with_reducible refine zg179 rfl ?_); refine zl179 (some 30) #[.pointer (some ⟨g, 0, none⟩)] ?_; (with_reducible refine (spec_l2Any.calls k g s0_0 t638 t639 t655 t658 t659 w0 _ ?side1 ?side2 A69.out).mono ?_); (case side1 => exact zq24); (case side2 => exact zq45); rintro e w71 ⟨v656, rfl, ho0, hi, hb, hk⟩; refine ⟨_, rfl, ?_⟩; replace BK627 := zA (zkb hk BK627.out NB627_0.out); replace BK636 := zA (zkb hk BK636.out NB636_0.out); have HO657 := zA (Kd.R_lower (Kd.R_new' ho0 (Kd.R_lt (zrk HO633.out))) (keep_size (w := w) (g := g) (row := none) zq38)); replace HO633 := zA (Kd.R_mono (Kd.R_told (Kd.R_oldK (IsS170.apart (show IsS170 w0 _ g s0_0 t638 t639 from zq24) (zrk HO633.out) zq52) hk) (Kd.R_base ho0)) (fun _ h_ => h_.1)); replace HK := zA (KeepBut.trans zq38 hk (.inl rfl)); replace HB := zA (hb); replace HI0 := zA (hi); clear hb hk hi ho0; obtain ⟨Ao72, co72, eo72⟩ := Kd.R_slice HO657.out; subst eo72; have hn73 := zn NB636_627; have hn74 := zn NB636_0; have hz75 := zc4 BK636.out))
  (try simp only [zvs])
  obtain ⟨rfl, rfl, rfl, rfl, rfl, rfl⟩ := zt6 H
  have hn76 := zn NB636_627
  have hn77 := zn NB636_0
  have hz78 := zc4 BK636.out
  have hn79 := zn NB627_0
  have hz80 := zc4 BK627.out
  go_wp2
  refine bodyPost_ret (results_cell_row rfl _ _ gb627 76 #[.int .i64 t628, .int .i64 t629, .string t630, .slice Ao72 t655.length co72] (0, 0) _ rfl (zbp BK627.out) Try.underlying76 rfl (by kernel_rfl)) rfl ?_
  exact ⟨_, zq1, (by (with_reducible repeat (first | apply Kd.R_alloc | apply Kd.R_drewN | apply Kd.R_drew)); exact Kd.R_mono (Kd.R_far (p := ⟨gb627, 3, none⟩) (Kd.R_far (p := ⟨gb627, 2, none⟩) (Kd.R_far (p := ⟨gb627, 1, none⟩) (Kd.R_far (p := ⟨gb627, 0, none⟩) (Kd.R_far (p := ⟨gb636, 3, none⟩) (Kd.R_types (Kd.R_types HO657.out BK636.out zq52) BK627.out zq52) (fun _ hk => hk.1.2) (.slice Ao72 t655.length co72)) (fun _ hk => hk.2) (.int .i64 t628)) (fun _ hk => hk.2) (.int .i64 t629)) (fun _ hk => hk.2) (.string t630)) (fun _ hk => hk.2) (.slice Ao72 t655.length co72)) (fun _ hk => trivial)), zq24, zq45, zq38⟩
 have c67b0 : (t637 == 3) = false := beq_eq_false_iff_ne.mpr c67
 have c67b1 : (t637 != 3) = true := bne_iff_ne.mpr c67
 go_upto_region 11 with fail
 obtain ⟨rfl, rfl, rfl, rfl, rfl, rfl⟩ := zt6 H
 have hn82 := zn NB636_627
 have hn83 := zn NB636_0
 have hz84 := zc4 BK636.out
 have hn85 := zn NB627_0
 have hz86 := zc4 BK627.out
 go_wp2
 refine bodyPost_ret (results_cell_row rfl _ _ gb627 76 #[.int .i64 t628, .int .i64 t629, .string t630, .slice Ao12 t631.length co12] (0, 0) _ rfl (zbp BK627.out) Try.underlying76 rfl (by kernel_rfl)) rfl ?_
 exact ⟨_, zq1, (by (with_reducible repeat (first | apply Kd.R_alloc | apply Kd.R_drewN | apply Kd.R_drew)); exact Kd.R_mono (Kd.R_far (p := ⟨gb627, 3, none⟩) (Kd.R_far (p := ⟨gb627, 2, none⟩) (Kd.R_far (p := ⟨gb627, 1, none⟩) (Kd.R_far (p := ⟨gb627, 0, none⟩) (Kd.R_types HO633.out BK627.out zq52) (fun _ hk => hk.2) (.int .i64 t628)) (fun _ hk => hk.2) (.int .i64 t629)) (fun _ hk => hk.2) (.string t630)) (fun _ hk => hk.2) (.slice Ao12 t631.length co12)) (fun _ hk => trivial)), zq24, zq45, zq38⟩

end Go.Proofs.Ytkcgghgkmgbphaa.PFnMsgs
