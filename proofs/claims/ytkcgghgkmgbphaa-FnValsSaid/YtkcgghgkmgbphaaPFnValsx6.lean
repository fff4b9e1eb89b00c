-- WRITTEN BY a turned copy of the kit's printer (wip/patch_print.py), for this claim
import Derived.Test.YtkcgghgkmgbphaaPFnValsx0
import Derived.Test.YtkcgghgkmgbphaaPFnValsx4
import Derived.Test.YtkcgghgkmgbphaaPFnValsx5
namespace Go.Proofs.Ytkcgghgkmgbphaa.PFnVals
open Go.RowKit Go.Proofs.YtkcgghgkmgbphaaW.PrintWords Go.Proofs.YtkcgghgkmgbphaaW.PrintLast Go.Proofs.YtkcgghgkmgbphaaW.PrintMore
attribute [local go_sem] max2_int min2_int max_two min_two max_three min_three max_four min_four   -- for this text's walks alone
set_option linter.unusedVariables false
set_option linter.unusedSimpArgs false

attribute [local go_sem] cell_setCell_m
/-! ### spec_l2Any: function 179 -/
def spec_l2Any.l0 : Nat → List Int → List Int → Int → Int → Option (List Int × Int × Int)
 | 0, _, _, _, _ => none
 | k + 1, x3, x1000, x1001, x1002 => (spec_l1Below.f x1000 x1001 x1002 2).bind fun bt310 => (if (x3.length : Int) < (wrap64 (10 + bt310.1)) then (if x3.length < 17592186044416 then (spec_l2Any.l0 k (x3 ++ [1]) x1000 bt310.2.1 bt310.2.2) else (none)) else (some (x3, bt310.2.1, bt310.2.2)))
def spec_l2Any.f (k : Nat) (s0_0 : List Int) (s0_1 : Int) (s0_2 : Int) : Option (List Int × Int × Int) := (spec_l2Draw.f k s0_0 s0_1 s0_2).bind fun bt292 => ((spec_l1Below.f s0_0 bt292.2.1 bt292.2.2 10).bind fun bt297 => (if bt297.1 = 0 then (some ((([] : List Int)), bt297.2.1, bt297.2.2)) else (if bt297.1 = 1 then ((spec_l1Int.f s0_0 bt297.2.1 bt297.2.2 (([(-1), 100001] : List Int))).bind fun bt306 => (if 0 < (bt292.1.length : Int) then (some ((bt292.1.set (0 : Int).toNat bt306.1), bt306.2.1, bt306.2.2)) else (none))) else (if bt297.1 = 2 then (spec_l2Any.l0 k bt292.1 s0_0 bt297.2.1 bt297.2.2) else (some (bt292.1, bt297.2.1, bt297.2.2))))))
theorem spec_l2Any.mono_l : ∀ k, (∀ y0 y1 y2 y3, LeO (spec_l2Any.l0 k y0 y1 y2 y3) (spec_l2Any.l0 (k + 1) y0 y1 y2 y3))
 | 0 => fun _ _ _ _ r h => by simp [spec_l2Any.l0] at h
 | k + 1 => by
  have ih0 := spec_l2Any.mono_l k
  ·intro y0 y1 y2 y3
   unfold spec_l2Any.l0
   have m0_ := @spec_l2Draw.mono
   exact zR
theorem spec_l2Any.mono : ∀ a0 a1 a2 k, LeO (spec_l2Any.f k a0 a1 a2) (spec_l2Any.f (k + 1) a0 a1 a2) := by
 intro a0 a1 a2 k
 have ih0 := spec_l2Any.mono_l k
 unfold spec_l2Any.f
 have m0_ := @spec_l2Draw.mono
 exact zR
set_option maxHeartbeats 8000000 in
set_option maxRecDepth 100000 in
theorem spec_l2Any.calls (k : Nat) (g : Nat) (s0_0 : List Int) (s0_1 : Int) (s0_2 : Int) (r1 : List Int) (r2 : Int) (r3 : Int) (w0 w : World) (hI : IsS170 w0 w g s0_0 s0_1 s0_2) (hB : Below w0.heap.size w0 w) (h : spec_l2Any.f k s0_0 s0_1 s0_2 = some (r1, r2, r3)) :
  Calls Try.prog 179 #[.pointer (some ⟨g, 0, none⟩)] w fun e w' => ∃ v0_ : Value, e = .returned (v0_) ∧ Kd.R (Kd.int .i64) 3 w' w.heap.size (fun _ => True) v0_ r1 ∧ IsS170 w0 w' g s0_0 r2 r3 ∧ Below w0.heap.size w0 w' ∧ KeepBut w w' g none := by
 have HI0 := zA hI
 have HK := zA (KeepBut.refl w g none)
 have HL := zA hB.size
 clear hI
 have HW0 := zA hB.size
 have HB := zA hB
 clear hB
 unfold spec_l2Any.f at h
 have H := h
 clear h
 have HC2 := zA H
 clear H
 go_enter Try.func179, Try.ntmps179
 go_upto_region 0 with (fail)
 have H := HC2.out
 clear HC2
 have HC3 := zA H
 clear H
 go_upto_region 1 with (fail)
 have H := HC3.out
 clear HC3
 obtain ⟨⟨t292, t295, t296⟩, A4, H⟩ := zB H
 try dsimp only at H
 have HC5 := zA H
 clear H
 go_upto_region 2 with (first | ((with_reducible refine gate_callee (f := 180) rfl ?_); refine goesL_ (some 5) rfl rfl Try.func180 (by kernel_rfl) rfl #[.pointer (some ⟨g, 0, none⟩)] rfl zq1 ?_; (with_reducible refine (spec_l2Draw.calls k g s0_0 s0_1 s0_2 t292 t295 t296 w0 _ ?side1 ?side2 A4.out).mono ?_); (case side1 => repeat (first | (with_reducible first | exact HI0.out | apply IsS170.alloc | apply IsS170.drewN | apply IsS170.drew | apply IsS170.set_1 | apply IsS170.set_2) | exact HI0.out)); (case side2 => repeat (first | (with_reducible first | exact HB.out | apply below_alloc | apply pw_below_drewN | apply below_drew1 | refine below_set ?_ (IsS170.ge HI0.out)) | exact HB.out)); rintro e w6 ⟨v293, rfl, ho0, hi, hb, hk⟩; refine ⟨_, rfl, ?_⟩; have HO294 := zA (Kd.R_lower ho0 (keep_size (w := w) (g := g) (row := none) zq3)); replace HK := zA (KeepBut.trans zq3 hk (.inl rfl)); replace HB := zA (hb); replace HI0 := zA (hi); clear hb hk hi ho0))
 (try simp only [Act.put, List.setIfInBounds_toArray, List.set_cons_zero, List.set_cons_succ])
 have H := HC5.out
 clear HC5
 obtain ⟨⟨t297, t298, t299⟩, A7, H⟩ := zB H
 try dsimp only at H
 have HC8 := zA H
 clear H
 go_upto_region 3 with (first | ((with_reducible refine gate_callee (f := 131) rfl ?_); refine goesL_ (some 7) rfl rfl Try.func131 (by kernel_rfl) rfl #[.pointer (some ⟨g, 0, none⟩), .int .i64 10] rfl zq1 ?_; (with_reducible refine (spec_l1Below.calls g s0_0 t295 t296 10 t297 t298 t299 w0 _ ?side1 ?side2 A7.out).mono ?_); (case side1 => repeat (first | (with_reducible first | exact HI0.out | apply IsS170.alloc | apply IsS170.drewN | apply IsS170.drew | apply IsS170.set_1 | apply IsS170.set_2) | exact HI0.out)); (case side2 => repeat (first | (with_reducible first | exact HB.out | apply below_alloc | apply pw_below_drewN | apply below_drew1 | refine below_set ?_ (IsS170.ge HI0.out)) | exact HB.out)); rintro e w9 ⟨rfl, hi, hb, hk⟩; refine ⟨_, rfl, ?_⟩; replace HO294 := zA (Kd.R_mono (Kd.R_keep (IsS170.apart (show IsS170 w0 _ g s0_0 t295 t296 from by repeat (first | (with_reducible first | exact HI0.out | apply IsS170.alloc | apply IsS170.drewN | apply IsS170.drew | apply IsS170.set_1 | apply IsS170.set_2) | exact HI0.out)) zq103 zq39) hk (fun _ h => h.2)) (fun _ h => h.1)); replace HK := zA (KeepBut.trans zq3 hk (.inl rfl)); replace HB := zA (hb); replace HI0 := zA (hi); clear hb hk hi))
 (try simp only [Act.put, List.setIfInBounds_toArray, List.set_cons_zero, List.set_cons_succ])
 have H := HC8.out
 clear HC8
 by_cases c10 : t297 = 0
 ·rw [if_pos c10] at H
  have c10b0 : (t297 == 0) = true := beq_iff_eq.mpr c10
  have c10b1 : (t297 != 0) = false := bne_eq_false_iff_eq.mpr c10
  clear c10
  have HC11 := zA H
  clear H
  go_upto_region 4 with (fail)
  have H := HC11.out
  clear HC11
  obtain ⟨y300, hy300⟩ : ∃ y_ : List Int, y_ = (([] : List Int)) := ⟨_, rfl⟩
  rw [← hy300] at H
  have Ny300 := zA hy300
  clear hy300
  simp only [Option.some.injEq, Prod.mk.injEq] at H
  obtain ⟨rfl, rfl, rfl⟩ := H
  go_wp2_with (first | ((with_reducible refine gate_dst (N := 10) rfl ?_); refine Kd.R_lit (Kd.int .i64) _ 3 ?hg (N := 10) ?hd (xs := ([] : List Int)) (inner := []) (ok := fun _ => True) (okp := fun _ => True) ?hr ?hp (fun _ hk => hk) trivial (Below.refl _ _) (Nat.le_refl _) zq134 ?_; (case hd => rfl); (case hg => rfl); (case hr => first | (go_simp; done) | (go_simp; rfl)); (case hp => exact (Reps.none _ _)); intro v301 w12 ho13 hb hg_ hnew_; clear hg_ hnew_; (first | rw [← Ny300.out] at ho13 | (simp only [Int.reduceToNat] at ho13; rw [← Ny300.out] at ho13)); have HO302 := zA (Kd.R_lower (Kd.R_new' ho13 (Kd.R_lt zq103)) (keep_size (w := w) (g := g) (row := none) zq3)); replace HO294 := zA (Kd.R_elder' zq103 (Kd.R_base ho13) hb); replace HK := zA (KeepBut.trans zq3 (KeepBut.of_below hb g none) (.inl rfl)); replace HB := zA (below_step zq5 hb); replace HI0 := zA (IsS170.below zq4 hb); clear hb ho13))
  go_ret
  exact ⟨_, zq2, (by (with_reducible repeat (first | apply Kd.R_alloc | apply Kd.R_drewN | apply Kd.R_drew)); exact Kd.R_mono HO302.out (fun _ hk => trivial)), zq4, zq5, zq3⟩
 ·rw [if_neg c10] at H
  have c10b0 : (t297 == 0) = false := beq_eq_false_iff_ne.mpr c10
  have c10b1 : (t297 != 0) = true := bne_iff_ne.mpr c10
  have HC14 := zA H
  clear H
  go_upto_region 5 with (fail)
  have H := HC14.out
  clear HC14
  by_cases c15 : t297 = 1
  ·rw [if_pos c15] at H
   have c15b0 : (t297 == 1) = true := beq_iff_eq.mpr c15
   have c15b1 : (t297 != 1) = false := bne_eq_false_iff_eq.mpr c15
   clear c15
   have HC16 := zA H
   clear H
   go_upto_region 6 with (fail)
   have H := HC16.out
   clear HC16
   obtain ⟨y303, hy303⟩ : ∃ y_ : List Int, y_ = (([(-1), 100001] : List Int)) := ⟨_, rfl⟩
   rw [← hy303] at H
   have Ny303 := zA hy303
   clear hy303
   obtain ⟨⟨t306, t307, t308⟩, A17, H⟩ := zB H
   try dsimp only at H
   obtain ⟨c18, H⟩ := zN H
   have c18b0 : decide (0 < (t292.length : Int)) = true := decide_eq_true c18
   have c18b1 : decide (0 < t292.length) = true := decide_eq_true zq144
   clear c18
   obtain ⟨y309, hy309⟩ : ∃ y_ : List Int, y_ = (t292.set (0 : Int).toNat t306) := ⟨_, rfl⟩
   rw [← hy309] at H
   have Ny309 := zA hy309
   clear hy309
   have HC20 := zA H
   clear H
   go_upto_region 10 with (first | ((with_reducible refine gate_dst (N := 15) rfl ?_); refine Kd.R_lit (Kd.int .i64) _ 3 ?hg (N := 15) ?hd (xs := ([(-1), 100001] : List Int)) (inner := [.int .i64 (-1), .int .i64 100001]) (ok := fun _ => True) (okp := fun _ => True) ?hr ?hp (fun _ hk => hk) trivial (Below.refl _ _) (Nat.le_refl _) zq134 ?_; (case hd => rfl); (case hg => rfl); (case hr => first | (go_simp; done) | (go_simp; rfl)); (case hp => exact (Reps.one (show Kd.M (Kd.int .i64) _ _ _ (-1) [.int .i64 (-1)] from rfl) (Reps.one (show Kd.M (Kd.int .i64) _ _ _ 100001 [.int .i64 100001] from rfl) (Reps.none _ _)))); intro v304 w21 ho22 hb hg_ hnew_; clear hg_ hnew_; (first | rw [← Ny303.out] at ho22 | (simp only [Int.reduceToNat] at ho22; rw [← Ny303.out] at ho22)); have HO305 := zA (Kd.R_lower (Kd.R_new' ho22 (Kd.R_lt zq103)) (keep_size (w := w) (g := g) (row := none) zq3)); replace HO294 := zA (Kd.R_elder' zq103 (Kd.R_base ho22) hb); replace HK := zA (KeepBut.trans zq3 (KeepBut.of_below hb g none) (.inl rfl)); replace HB := zA (below_step zq5 hb); replace HI0 := zA (IsS170.below zq4 hb); clear hb ho22; obtain ⟨Ao23, co23, eo23⟩ := Kd.R_slice HO305.out; subst eo23) | ((with_reducible refine gate_callee (f := 140) rfl ?_); refine goesL_ (some 16) rfl rfl Try.func140 (by kernel_rfl) rfl #[.pointer (some ⟨g, 0, none⟩), .slice Ao23 y303.length co23] rfl zq1 ?_; (with_reducible refine (spec_l1Int.calls g s0_0 t298 t299 _ _ y303 t306 t307 t308 w0 _ ?side1 ?side2 ?side3 ?side4 ?side5 A17.out).mono ?_); (case side1 => repeat (first | (with_reducible first | exact HI0.out | apply IsS170.alloc | apply IsS170.drewN | apply IsS170.drew | apply IsS170.set_1 | apply IsS170.set_2) | exact HI0.out)); (case side2 => repeat (first | (with_reducible first | exact HB.out | apply below_alloc | apply pw_below_drewN | apply below_drew1 | refine below_set ?_ (IsS170.ge HI0.out)) | exact HB.out)); (case side3 => repeat (first | exact (Kd.R_reads' HO305.out).2.2 | (with_reducible refine Kd.C_alloc ?_ _) | (with_reducible refine Kd.C_drewN ?_ _) | (with_reducible refine Kd.C_drew ?_))); (case side4 => exact (Kd.R_reads' HO305.out).2.1); (case side5 => exact far_slice (IsS170.own_ne HI0.out HO305.out zq39)); rintro e w24 ⟨rfl, hi, hb, hk⟩; refine ⟨_, rfl, ?_⟩; replace HO294 := zA (Kd.R_mono (Kd.R_keep (IsS170.apart (show IsS170 w0 _ g s0_0 t298 t299 from by repeat (first | (with_reducible first | exact HI0.out | apply IsS170.alloc | apply IsS170.drewN | apply IsS170.drew | apply IsS170.set_1 | apply IsS170.set_2) | exact HI0.out)) zq103 zq39) hk (fun _ h => h.2)) (fun _ h => h.1)); replace HO305 := zA (Kd.R_mono (Kd.R_keep (IsS170.apart (show IsS170 w0 _ g s0_0 t298 t299 from by repeat (first | (with_reducible first | exact HI0.out | apply IsS170.alloc | apply IsS170.drewN | apply IsS170.drew | apply IsS170.set_1 | apply IsS170.set_2) | exact HI0.out)) zq206 zq39) hk (fun _ h => h.2)) (fun _ h => h.1)); replace HK := zA (KeepBut.trans zq3 hk (.inl rfl)); replace HB := zA (hb); replace HI0 := zA (hi); clear hb hk hi; have p19 : 0 ≤ (0 : Int) := zq144; have q19 : (0 : Int) < ((t292.length : Int) : Int) := of_decide_eq_true zq7; have qi19 : (0 < t292.length) = True := eq_true zq144; obtain ⟨go19, co19, eo19, gb19, gl19, cl19, HG19⟩ := Kd.R_form HO294.out zq144; (first | cases eo19 | (injection eo19 with ea_ en_ ec_; (first | subst ea_ | (injection ea_ with ea_; subst ea_)); subst ec_; clear en_)); have GB19 := zA gb19; have GG19 := zA HG19; clear gb19 gl19 HG19; obtain ⟨hx19_0, hf19_0⟩ := Kd.R_celln 0 HO294.out (0 : Int) p19 q19; (try rw [show ((0 : Int)).toNat = 0 from rfl] at hx19_0); (try simp only [Nat.reduceMul, Nat.zero_mul, Nat.zero_add, Nat.reduceAdd] at hx19_0); (try rw [show ((0 : Int)).toNat = 0 from rfl] at hf19_0); (try simp only [Nat.reduceMul, Nat.zero_mul, Nat.zero_add, Nat.reduceAdd] at hf19_0); replace p19 := eq_true p19; replace q19 := eq_true q19; have n_ := zA (Kd.R_mono (ok' := (fun k_ => some k_ ≠ (.slice Ao23 y303.length co23 : Value).ownBlock)) HO294.out (fun k_ hk => hk.2)); clear HO294; have HO294 := n_; clear n_; obtain ⟨hy25_, hz25_⟩ := Kd.R_celln 0 HO294.out (0 : Int) zq144 (of_decide_eq_true zq7); (try simp only [Int.reduceToNat, Int.toNat_zero, Int.toNat_ofNat, Nat.reduceMul, Nat.zero_mul, Nat.zero_add] at hy25_ hz25_); (try rw [show ((0 : Int)).toNat = 0 from rfl] at hy25_); (try rw [show ((0 : Int)).toNat = 0 from rfl] at hz25_); have HP25 := Kd.R_putg HO294.out (0 : Int) t306) | ((with_reducible refine gate_store (t := 3) (p := 17) rfl ?_); refine store_event (t := 3) (p := 17) (v := ?vo_w26) (w1 := (w24.setCell ⟨go19, (0 : Int).toNat, none⟩ (.int .i64 t306))) ?hg ?ho ?hn ?hr ?_; (case ho => rfl); (case hg => rfl); (case hn => rfl); (case hr => first | (go_simp; done) | (go_simp; rfl)); intro w26 hw; have hg : w24.grownBy w26 (some go19) := (by rw [hw]; exact HP25.2); have hp_ : Kd.R (Kd.int .i64) 3 w26 w.heap.size (fun k_ => some k_ ≠ (.slice Ao23 y303.length co23 : Value).ownBlock) (.slice (some ⟨go19, 0, none⟩) t292.length co19) y309 := (by rw [hw, Ny309.out]; exact HP25.1); clear HP25; replace HI0 := zA (IsS170.grown zq4 hg (IsS170.own_ne HI0.out HO294.out zq39)); replace HO305 := zA (Kd.R_after (v := (.slice (some ⟨go19, 0, none⟩) t292.length co19)) (v1 := (.slice (some ⟨go19, 0, none⟩) t292.length co19)) (ok := (fun _ => True)) zq206 hg (.inl rfl)); replace HB := zA ((by rw [hw]; exact below_set (HB.out) (Nat.le_trans HL.out GB19.out) : Below w0.heap.size w0 w26)); replace HK := zA (KeepBut.trans zq3 (KeepBut.of_grown hg g) (Kd.R_base2 HO294.out)); replace HO294 := zA (hp_); clear hg hw hp_))
   (try simp only [Act.put, List.setIfInBounds_toArray, List.set_cons_zero, List.set_cons_succ])
   have H := HC20.out
   clear HC20
   simp only [Option.some.injEq, Prod.mk.injEq] at H
   obtain ⟨rfl, rfl, rfl⟩ := H
   go_wp2
   go_ret
   exact ⟨_, zq2, (by (with_reducible repeat (first | apply Kd.R_alloc | apply Kd.R_drewN | apply Kd.R_drew)); exact Kd.R_mono HO294.out (fun _ hk => trivial)), zq4, zq5, zq3⟩
  ·rw [if_neg c15] at H
   have c15b0 : (t297 == 1) = false := beq_eq_false_iff_ne.mpr c15
   have c15b1 : (t297 != 1) = true := bne_iff_ne.mpr c15
   have HC27 := zA H
   clear H
   go_upto_region 7 with (fail)
   have H := HC27.out
   clear HC27
   by_cases c28 : t297 = 2
   ·rw [if_pos c28] at H
    have c28b0 : (t297 == 2) = true := beq_iff_eq.mpr c28
    have c28b1 : (t297 != 2) = false := bne_eq_false_iff_eq.mpr c28
    clear c28
    have H' := zA H
    clear H
    go_wp2
    go_loopg [3] k (fun kq v3 w' => ∃ (x3_1 : List Int) (x1001_1 : Int) (x1002_1 : Int), Aside0 (spec_l2Any.l0 kq x3_1 s0_0 x1001_1 x1002_1 = some (r1, r2, r3)) ∧ Aside0 (kq ≤ k) ∧ Aside0 (Kd.R (Kd.int .i64) 3 w' w.heap.size (fun _ => True) v3 x3_1) ∧ Aside0 (IsS170 w0 w' g s0_0 x1001_1 x1002_1) ∧ Aside0 (KeepBut w w' g none) ∧ Aside0 (Below w0.heap.size w0 w'))
    case atStart => exact ⟨(t292), (t298), (t299), H', ⟨Nat.le_refl _⟩, ⟨zq103⟩, ⟨zq4⟩, ⟨zq3⟩, ⟨zq5⟩⟩
    case round =>
     clear H'
     try clear c1
     try clear p1
     try clear q1
     try clear hx1
     try clear qi1
     try clear hf1
     try clear c2
     try clear p2
     try clear c10
     try clear c10b0
     try clear c10b1
     try clear c13
     try clear c14
     try clear c15
     try clear c15b0
     try clear c15b1
     try clear c17
     try clear c18
     try clear c18b0
     try clear c18b1
     try clear p19
     try clear q19
     try clear hx19
     try clear qi19
     try clear hf19
     try clear c28
     try clear c28b0
     try clear c28b1
     try clear hx19_0
     try clear p19
     try clear q19
     obtain ⟨x3_1, x1001_1, x1002_1, HA, HK1, HO_3, HI0, HK, HB⟩ := hrel
     cases gk with
     | zero => exact absurd HA.out (by simp [spec_l2Any.l0])
     | succ k1 =>
      have H := HA.out
      clear HA
      simp only [spec_l2Any.l0] at H
      have HC29 := zA H
      clear H
      go_upto_region 8 with (fail)
      have H := HC29.out
      clear HC29
      obtain ⟨⟨t310, t311, t312⟩, A30, H⟩ := zB H
      try dsimp only at H
      by_cases c31 : (x3_1.length : Int) < (wrap64 (10 + t310))
      ·rw [if_pos c31] at H
       have c31b0 : decide ((x3_1.length : Int) < (wrap64 (10 + t310))) = true := decide_eq_true c31
       clear c31
       have HC32 := zA H
       clear H
       obtain ⟨Ao33, co33, eo33⟩ := Kd.R_slice HO_3.out
       subst eo33
       go_upto_region 9 with (first | ((with_reducible refine gate_callee (f := 131) rfl ?_); refine goesL_ (some 23) rfl rfl Try.func131 (by kernel_rfl) rfl #[.pointer (some ⟨g, 0, none⟩), .int .i64 2] rfl zq1 ?_; (with_reducible refine (spec_l1Below.calls g s0_0 x1001_1 x1002_1 2 t310 t311 t312 w0 _ ?side1 ?side2 A30.out).mono ?_); (case side1 => repeat (first | (with_reducible first | exact HI0.out | apply IsS170.alloc | apply IsS170.drewN | apply IsS170.drew | apply IsS170.set_1 | apply IsS170.set_2) | exact HI0.out)); (case side2 => repeat (first | (with_reducible first | exact HB.out | apply below_alloc | apply pw_below_drewN | apply below_drew1 | refine below_set ?_ (IsS170.ge HI0.out)) | exact HB.out)); rintro e w34 ⟨rfl, hi, hb, hk⟩; refine ⟨_, rfl, ?_⟩; replace HO_3 := zA (Kd.R_mono (Kd.R_keep (IsS170.apart (show IsS170 w0 _ g s0_0 x1001_1 x1002_1 from by repeat (first | (with_reducible first | exact HI0.out | apply IsS170.alloc | apply IsS170.drewN | apply IsS170.drew | apply IsS170.set_1 | apply IsS170.set_2) | exact HI0.out)) zq14 zq39) hk (fun _ h => h.2)) (fun _ h => h.1)); replace HK := zA (KeepBut.trans zq3 hk (.inl rfl)); replace HB := zA (hb); replace HI0 := zA (hi); clear hb hk hi))
       (try simp only [Act.put, List.setIfInBounds_toArray, List.set_cons_zero, List.set_cons_succ])
       have H := HC32.out
       clear HC32
       obtain ⟨c35, H⟩ := zN H
       have LMc35 := zA c35
       clear c35
       obtain ⟨y313, hy313⟩ : ∃ y_ : List Int, y_ = (x3_1 ++ [1]) := ⟨_, rfl⟩
       rw [← hy313] at H
       have Ny313 := zA hy313
       clear hy313
       have H' := zA H
       clear H
       go_wp2_with (first | ((with_reducible refine gate_builtin (b := .append) (xs := #[.tmp 26, .tmp 27]) rfl ?_); at_builtin; refine Kd.R_append (Kd.int .i64) w.heap.size rfl (.tmp 26) (.tmp 27) 71 3 (.int .i64 0) 8 rfl Try.underlying71 info3 rfl zq39 zq144 (.slice Ao33 x3_1.length co33) x3_1 1 [.int .i64 1] (fun _ => True) (fun _ => False) rfl rfl ?aP (fun _ hk => hk.elim) ?aF ?aO (Below.refl _ _) ?aS ?aL ?_; (case aP => exact rfl); (case aF => exact (fun _ _ => trivial)); (case aO => exact zq14); (case aS => exact (keep_size (w := w) (g := g) (row := none) zq3)); (case aL => have := LMc35.out; omega); intro v314 w36 ho hb hg hat; rw [← Ny313.out] at ho; replace HB := zA (below_weaken zq5 HL.out hb); replace HI0 := zA (IsS170.grown zq4 hg (IsS170.own_ne HI0.out HO_3.out zq39)); replace HK := zA (KeepBut.trans zq3 (KeepBut.of_grown hg g) (Kd.R_base2 HO_3.out)); have HO315 := zA (ho); clear HO_3; clear ho hb hg hat))
       go_roundg k1
       case measure => have := HK1.out; omega
       case rel => exact ⟨(y313), (t311), (t312), H', ⟨zq148⟩, ⟨(by (with_reducible repeat (first | apply Kd.R_alloc | apply Kd.R_drewN | apply Kd.R_drew)); exact HO315.out)⟩, ⟨zq4⟩, ⟨zq3⟩, ⟨zq5⟩⟩
      ·rw [if_neg c31] at H
       have c31b0 : decide ((x3_1.length : Int) < (wrap64 (10 + t310))) = false := decide_eq_false c31
       clear c31
       have HC37 := zA H
       clear H
       obtain ⟨Ao38, co38, eo38⟩ := Kd.R_slice HO_3.out
       subst eo38
       go_upto_region 10 with (first | ((with_reducible refine gate_callee (f := 131) rfl ?_); refine goesL_ (some 23) rfl rfl Try.func131 (by kernel_rfl) rfl #[.pointer (some ⟨g, 0, none⟩), .int .i64 2] rfl zq1 ?_; (with_reducible refine (spec_l1Below.calls g s0_0 x1001_1 x1002_1 2 t310 t311 t312 w0 _ ?side1 ?side2 A30.out).mono ?_); (case side1 => repeat (first | (with_reducible first | exact HI0.out | apply IsS170.alloc | apply IsS170.drewN | apply IsS170.drew | apply IsS170.set_1 | apply IsS170.set_2) | exact HI0.out)); (case side2 => repeat (first | (with_reducible first | exact HB.out | apply below_alloc | apply pw_below_drewN | apply below_drew1 | refine below_set ?_ (IsS170.ge HI0.out)) | exact HB.out)); rintro e w39 ⟨rfl, hi, hb, hk⟩; refine ⟨_, rfl, ?_⟩; replace HO_3 := zA (Kd.R_mono (Kd.R_keep (IsS170.apart (show IsS170 w0 _ g s0_0 x1001_1 x1002_1 from by repeat (first | (with_reducible first | exact HI0.out | apply IsS170.alloc | apply IsS170.drewN | apply IsS170.drew | apply IsS170.set_1 | apply IsS170.set_2) | exact HI0.out)) zq14 zq39) hk (fun _ h => h.2)) (fun _ h => h.1)); replace HK := zA (KeepBut.trans zq3 hk (.inl rfl)); replace HB := zA (hb); replace HI0 := zA (hi); clear hb hk hi))
       (try simp only [Act.put, List.setIfInBounds_toArray, List.set_cons_zero, List.set_cons_succ])
       have H := HC37.out
       clear HC37
       simp only [Option.some.injEq, Prod.mk.injEq] at H
       obtain ⟨rfl, rfl, rfl⟩ := H
       go_wp2
       go_ret
       exact ⟨_, zq2, zq14, zq4, zq5, zq3⟩
   ·rw [if_neg c28] at H
    have c28b0 : (t297 == 2) = false := beq_eq_false_iff_ne.mpr c28
    have c28b1 : (t297 != 2) = true := bne_iff_ne.mpr c28
    have HC40 := zA H
    clear H
    go_upto_region 10 with (fail)
    have H := HC40.out
    clear HC40
    simp only [Option.some.injEq, Prod.mk.injEq] at H
    obtain ⟨rfl, rfl, rfl⟩ := H
    go_wp2
    go_ret
    exact ⟨_, zq2, zq103, zq4, zq5, zq3⟩

/-! ### spec_l3Any: function 167 -/
def spec_l3Any.f (k : Nat) (s0_0 : List Int) (s0_1 : Int) (s0_2 : Int) : Option (Int × Int × ByteArray × List Int × Int × Int) := (spec_l3Draw.f k s0_0 s0_1 s0_2).bind fun bt317 => ((spec_l1Below.f s0_0 bt317.2.2.2.2.1 bt317.2.2.2.2.2 12).bind fun bt326 => (if bt326.1 = 0 then ((spec_l1Int.f s0_0 bt326.2.1 bt326.2.2 (([0, 1, 2, 4, 5, 6, 128, 129, 130] : List Int))).bind fun bt332 => (some (bt332.1, bt317.2.1, bt317.2.2.1, bt317.2.2.2.1, bt332.2.1, bt332.2.2))) else (if bt326.1 = 1 then ((spec_l1Num.f s0_0 bt326.2.1 bt326.2.2).bind fun bt335 => (some (bt317.1, bt335.1, bt317.2.2.1, bt317.2.2.2.1, bt335.2.1, bt335.2.2))) else (if bt326.1 = 2 then ((spec_l1Below.f s0_0 bt326.2.1 bt326.2.2 2).bind fun bt338 => (if 0 ≤ (wrap64 (20 + bt338.1)) then (if (wrap64 (20 + bt338.1) : Int).toNat ≤ 281474976710656 then (some (bt317.1, bt317.2.1, strOfNums (List.replicate (wrap64 (20 + bt338.1) : Int).toNat 0), bt317.2.2.2.1, bt338.2.1, bt338.2.2)) else (none)) else (none))) else (if bt326.1 = 3 then ((spec_l2Any.f k s0_0 bt326.2.1 bt326.2.2).bind fun bt344 => (some (bt317.1, bt317.2.1, bt317.2.2.1, bt344.1, bt344.2.1, bt344.2.2))) else (some (bt317.1, bt317.2.1, bt317.2.2.1, bt317.2.2.2.1, bt326.2.1, bt326.2.2)))))))
theorem spec_l3Any.mono : ∀ a0 a1 a2 k, LeO (spec_l3Any.f k a0 a1 a2) (spec_l3Any.f (k + 1) a0 a1 a2) := by
 intro a0 a1 a2 k
 unfold spec_l3Any.f
 have m0_ := @spec_l2Any.mono
 have m1_ := @spec_l3Draw.mono
 exact zR
set_option maxHeartbeats 8000000 in
set_option maxRecDepth 100000 in
theorem spec_l3Any.calls (k : Nat) (g : Nat) (s0_0 : List Int) (s0_1 : Int) (s0_2 : Int) (r1 : Int) (r2 : Int) (r3 : ByteArray) (r4 : List Int) (r5 : Int) (r6 : Int) (w0 w : World) (hI : IsS170 w0 w g s0_0 s0_1 s0_2) (hB : Below w0.heap.size w0 w) (h : spec_l3Any.f k s0_0 s0_1 s0_2 = some (r1, r2, r3, r4, r5, r6)) :
  Calls Try.prog 167 #[.pointer (some ⟨g, 0, none⟩)] w fun e w' => ∃ v3_ : Value, e = .returned (.agg #[.int .i64 r1, .int .i64 r2, .string r3, v3_]) ∧ Kd.R (Kd.int .i64) 3 w' w.heap.size (fun _ => True) v3_ r4 ∧ IsS170 w0 w' g s0_0 r5 r6 ∧ Below w0.heap.size w0 w' ∧ KeepBut w w' g none := by
 have hu76 := Try.underlying76
 have HI0 := zA hI
 have HK := zA (KeepBut.refl w g none)
 have HL := zA hB.size
 clear hI
 have HW0 := zA hB.size
 have HB := zA hB
 clear hB
 unfold spec_l3Any.f at h
 have H := h
 clear h
 have HC2 := zA H
 clear H
 go_enter Try.func167, Try.ntmps167
 go_upto_region 0 with (fail)
 have H := HC2.out
 clear HC2
 have HC3 := zA H
 clear H
 go_upto_region 1 with (first | ((with_reducible refine gate_dst (N := 2) rfl ?_); refine box_event ?hg (N := 2) ?hd (cs := #[.int .i64 0, .int .i64 0, .string (⟨#[]⟩ : ByteArray), .slice none 0 0]) (t := 76) ?hr ?_; (case hd => rfl); (case hg => rfl); (case hr => first | (go_simp; done) | (go_simp; rfl)); intro gb316 hg w4 hbox hb; replace HB := zA (below_step zq5 hb); have BK316 := zA (hbox); have GW316 := zA ((zq118 : w.heap.size ≤ gb316)); have GE316 := zA ((Nat.le_trans HW0.out (zq118 : w.heap.size ≤ gb316) : w0.heap.size ≤ gb316)); replace HK := zA (KeepBut.trans zq3 (KeepBut.of_below hb g none) (.inl rfl)); have NB0_316 := zA ((zq172 : g ≠ gb316)); have NB316_0 := zA ((zq173 : gb316 ≠ g)); replace HI0 := zA (IsS170.below zq4 hb); clear hb hbox hg))
 (try simp only [Act.put, List.setIfInBounds_toArray, List.set_cons_zero, List.set_cons_succ])
 have H := HC3.out
 clear HC3
 obtain ⟨⟨t317, t318, t319, t320, t323, t324⟩, A5, H⟩ := zB H
 try dsimp only at H
 have HC6 := zA H
 clear H
 go_upto_region 2 with (first | ((with_reducible refine gate_callee (f := 168) rfl ?_); refine goesL_ (some 5) rfl rfl Try.func168 (by kernel_rfl) rfl #[.pointer (some ⟨g, 0, none⟩)] rfl zq1 ?_; (with_reducible refine (spec_l3Draw.calls k g s0_0 s0_1 s0_2 t317 t318 t319 t320 t323 t324 w0 _ ?side1 ?side2 A5.out).mono ?_); (case side1 => repeat (first | (with_reducible first | exact HI0.out | apply IsS170.alloc | apply IsS170.drewN | apply IsS170.drew | apply IsS170.set_1 | apply IsS170.set_2 | refine IsS170.far ?_ NB0_316.out _) | exact HI0.out)); (case side2 => repeat (first | (with_reducible first | exact HB.out | apply below_alloc | apply pw_below_drewN | apply below_drew1 | refine below_set ?_ (IsS170.ge HI0.out) | refine below_set ?_ GE316.out) | exact HB.out)); rintro e w7 ⟨v321, rfl, ho0, hi, hb, hk⟩; refine ⟨_, rfl, ?_⟩; replace BK316 := zA (KeepBut.blk hk (g' := gb316) (o := .cells #[.int .i64 0, .int .i64 0, .string (⟨#[]⟩ : ByteArray), .slice none 0 0] 76 (0, 0)) zq70 NB316_0.out zq134); have HO322 := zA (Kd.R_lower ho0 (keep_size (w := w) (g := g) (row := none) zq104)); replace HK := zA (KeepBut.trans zq104 hk (.inl rfl)); replace HB := zA (hb); replace HI0 := zA (hi); clear hb hk hi ho0) | ((with_reducible refine gate_dst (N := 3) rfl ?_); refine box_event ?hg (N := 3) ?hd (cs := #[.int .i64 0, .int .i64 0, .string (⟨#[]⟩ : ByteArray), .slice none 0 0]) (t := 76) ?hr ?_; (case hd => rfl); (case hg => rfl); (case hr => first | (go_simp; done) | (go_simp; rfl)); intro gb325 hg w8 hbox hb; replace HO322 := zA (Kd.R_below zq87 hb); replace HB := zA (below_step (by repeat (first | (with_reducible first | exact HB.out | apply below_alloc | apply pw_below_drewN | apply below_drew1 | refine below_set ?_ (IsS170.ge HI0.out) | refine below_set ?_ GE316.out) | exact HB.out)) hb); have BK325 := zA (hbox); have GW325 := zA ((zq179 : w.heap.size ≤ gb325)); have GE325 := zA ((Nat.le_trans HW0.out (zq179 : w.heap.size ≤ gb325) : w0.heap.size ≤ gb325)); replace HK := zA (KeepBut.trans zq104 (KeepBut.of_below hb g none) (.inl rfl)); have NB316_325 := zA ((by rw [hg]; exact Nat.ne_of_lt (blk_lt (g := gb316) (o := .cells #[.int .i64 0, .int .i64 0, .string (⟨#[]⟩ : ByteArray), .slice none 0 0] 76 (0, 0)) zq70) : gb316 ≠ gb325)); have NB325_316 := zA ((by rw [hg]; exact Nat.ne_of_gt (blk_lt (g := gb316) (o := .cells #[.int .i64 0, .int .i64 0, .string (⟨#[]⟩ : ByteArray), .slice none 0 0] 76 (0, 0)) zq70) : gb325 ≠ gb316)); replace BK316 := zA (blk_below (g := gb316) (o := .cells #[.int .i64 0, .int .i64 0, .string (⟨#[]⟩ : ByteArray), .slice none 0 0] 76 (0, 0)) zq70 hb); have NB0_325 := zA ((by rw [hg]; exact Nat.ne_of_lt (IsS170.lt (show IsS170 w0 _ g s0_0 t323 t324 from by repeat (first | (with_reducible first | exact HI0.out | apply IsS170.alloc | apply IsS170.drewN | apply IsS170.drew | apply IsS170.set_1 | apply IsS170.set_2 | refine IsS170.far ?_ NB0_316.out _) | exact HI0.out))) : g ≠ gb325)); have NB325_0 := zA ((by rw [hg]; exact Nat.ne_of_gt (IsS170.lt (show IsS170 w0 _ g s0_0 t323 t324 from by repeat (first | (with_reducible first | exact HI0.out | apply IsS170.alloc | apply IsS170.drewN | apply IsS170.drew | apply IsS170.set_1 | apply IsS170.set_2 | refine IsS170.far ?_ NB0_316.out _) | exact HI0.out))) : gb325 ≠ g)); replace HI0 := zA (IsS170.below (by repeat (first | (with_reducible first | exact HI0.out | apply IsS170.alloc | apply IsS170.drewN | apply IsS170.drew | apply IsS170.set_1 | apply IsS170.set_2 | refine IsS170.far ?_ NB0_316.out _) | exact HI0.out)) hb); clear hb hbox hg; have hnb9 := NB325_316.out; have hnc9 := NB316_325.out; have hnb10 := NB325_0.out; have hnc10 := NB0_325.out; have hcz11_0 : w8.cell? ⟨gb325, 0, none⟩ = some (.int .i64 0) := (blk_cell BK325.out 0).trans rfl; have hcz11_1 : w8.cell? ⟨gb325, 1, none⟩ = some (.int .i64 0) := (blk_cell BK325.out 1).trans rfl; have hcz11_2 : w8.cell? ⟨gb325, 2, none⟩ = some (.string (⟨#[]⟩ : ByteArray)) := (blk_cell BK325.out 2).trans rfl; have hcz11_3 : w8.cell? ⟨gb325, 3, none⟩ = some (.slice none 0 0) := (blk_cell BK325.out 3).trans rfl; have hfz11_0 := blk_frozen BK325.out 0; have hfz11_1 := blk_frozen BK325.out 1; have hfz11_2 := blk_frozen BK325.out 2; have hfz11_3 := blk_frozen BK325.out 3; obtain ⟨Ao12, co12, eo12⟩ := Kd.R_slice HO322.out; subst eo12))
 (try simp only [Act.put, List.setIfInBounds_toArray, List.set_cons_zero, List.set_cons_succ])
 have H := HC6.out
 clear HC6
 obtain ⟨⟨t326, t327, t328⟩, A13, H⟩ := zB H
 try dsimp only at H
 have HC14 := zA H
 clear H
 go_upto_region 3 with (first | ((with_reducible refine gate_callee (f := 131) rfl ?_); refine goesL_ (some 7) rfl rfl Try.func131 (by kernel_rfl) rfl #[.pointer (some ⟨g, 0, none⟩), .int .i64 12] rfl zq1 ?_; (with_reducible refine (spec_l1Below.calls g s0_0 t323 t324 12 t326 t327 t328 w0 _ ?side1 ?side2 A13.out).mono ?_); (case side1 => repeat (first | (with_reducible first | exact HI0.out | apply IsS170.alloc | apply IsS170.drewN | apply IsS170.drew | apply IsS170.set_1 | apply IsS170.set_2 | refine IsS170.far ?_ NB0_316.out _ | refine IsS170.far ?_ NB0_325.out _) | exact HI0.out)); (case side2 => repeat (first | (with_reducible first | exact HB.out | apply below_alloc | apply pw_below_drewN | apply below_drew1 | refine below_set ?_ (IsS170.ge HI0.out) | refine below_set ?_ GE316.out | refine below_set ?_ GE325.out) | exact HB.out)); rintro e w15 ⟨rfl, hi, hb, hk⟩; refine ⟨_, rfl, ?_⟩; replace BK316 := zA (KeepBut.blk hk (g' := gb316) (o := .cells #[.int .i64 0, .int .i64 0, .string (⟨#[]⟩ : ByteArray), .slice none 0 0] 76 (0, 0)) (by (with_reducible repeat (first | refine blk_drewN ?_ _ | refine blk_drew ?_ | refine blk_alloc ?_ _)); refine blk_far ?_ NB316_325.out _; (with_reducible repeat (first | refine blk_drewN ?_ _ | refine blk_drew ?_ | refine blk_alloc ?_ _)); refine blk_far ?_ NB316_325.out _; (with_reducible repeat (first | refine blk_drewN ?_ _ | refine blk_drew ?_ | refine blk_alloc ?_ _)); refine blk_far ?_ NB316_325.out _; (with_reducible repeat (first | refine blk_drewN ?_ _ | refine blk_drew ?_ | refine blk_alloc ?_ _)); refine blk_far ?_ NB316_325.out _; (with_reducible repeat (first | refine blk_drewN ?_ _ | refine blk_drew ?_ | refine blk_alloc ?_ _)); exact BK316.out) NB316_0.out zq134); replace HO322 := zA (Kd.R_mono (Kd.R_keep (IsS170.apart (show IsS170 w0 _ g s0_0 t323 t324 from by repeat (first | (with_reducible first | exact HI0.out | apply IsS170.alloc | apply IsS170.drewN | apply IsS170.drew | apply IsS170.set_1 | apply IsS170.set_2 | refine IsS170.far ?_ NB0_316.out _ | refine IsS170.far ?_ NB0_325.out _) | exact HI0.out)) (by (with_reducible repeat (first | apply Kd.R_alloc | apply Kd.R_drewN | apply Kd.R_drew)); exact (Kd.R_mono (Kd.R_far (p := ⟨gb325, 3, none⟩) (Kd.R_far (p := ⟨gb325, 2, none⟩) (Kd.R_far (p := ⟨gb325, 1, none⟩) (Kd.R_far (p := ⟨gb325, 0, none⟩) (Kd.R_types HO322.out BK325.out zq39) (fun _ hk => hk.2) (.int .i64 t317)) (fun _ hk => hk.2) (.int .i64 t318)) (fun _ hk => hk.2) (.string t319)) (fun _ hk => hk.2) (.slice Ao12 t320.length co12)) (fun _ h_ => h_.1))) zq39) hk (fun _ h => h.2)) (fun _ h => h.1)); replace BK325 := zA (KeepBut.blk hk (g' := gb325) (o := .cells #[.int .i64 t317, .int .i64 t318, .string t319, .slice Ao12 t320.length co12] 76 (0, 0)) (by (with_reducible repeat (first | refine blk_drewN ?_ _ | refine blk_drew ?_ | refine blk_alloc ?_ _)); refine blk_put (cs := #[.int .i64 t317, .int .i64 t318, .string t319, .slice none 0 0]) ?_ 3 _ rfl; (with_reducible repeat (first | refine blk_drewN ?_ _ | refine blk_drew ?_ | refine blk_alloc ?_ _)); refine blk_put (cs := #[.int .i64 t317, .int .i64 t318, .string (⟨#[]⟩ : ByteArray), .slice none 0 0]) ?_ 2 _ rfl; (with_reducible repeat (first | refine blk_drewN ?_ _ | refine blk_drew ?_ | refine blk_alloc ?_ _)); refine blk_put (cs := #[.int .i64 t317, .int .i64 0, .string (⟨#[]⟩ : ByteArray), .slice none 0 0]) ?_ 1 _ rfl; (with_reducible repeat (first | refine blk_drewN ?_ _ | refine blk_drew ?_ | refine blk_alloc ?_ _)); refine blk_put (cs := #[.int .i64 0, .int .i64 0, .string (⟨#[]⟩ : ByteArray), .slice none 0 0]) ?_ 0 _ rfl; (with_reducible repeat (first | refine blk_drewN ?_ _ | refine blk_drew ?_ | refine blk_alloc ?_ _)); exact BK325.out) NB325_0.out zq134); replace HK := zA (KeepBut.trans zq21 hk (.inl rfl)); replace HB := zA (hb); replace HI0 := zA (hi); clear hb hk hi))
 (try simp only [Act.put, List.setIfInBounds_toArray, List.set_cons_zero, List.set_cons_succ])
 have H := HC14.out
 clear HC14
 by_cases c16 : t326 = 0
 ·rw [if_pos c16] at H
  have c16b0 : (t326 == 0) = true := beq_iff_eq.mpr c16
  have c16b1 : (t326 != 0) = false := bne_eq_false_iff_eq.mpr c16
  clear c16
  have HC17 := zA H
  clear H
  go_upto_region 4 with (fail)
  have H := HC17.out
  clear HC17
  obtain ⟨y329, hy329⟩ : ∃ y_ : List Int, y_ = (([0, 1, 2, 4, 5, 6, 128, 129, 130] : List Int)) := ⟨_, rfl⟩
  rw [← hy329] at H
  have Ny329 := zA hy329
  clear hy329
  obtain ⟨⟨t332, t333, t334⟩, A18, H⟩ := zB H
  try dsimp only at H
  have HC19 := zA H
  clear H
  go_upto_region 11 with (first | ((with_reducible refine gate_dst (N := 11) rfl ?_); refine Kd.R_lit (Kd.int .i64) _ 3 ?hg (N := 11) ?hd (xs := ([0, 1, 2, 4, 5, 6, 128, 129, 130] : List Int)) (inner := [.int .i64 0, .int .i64 1, .int .i64 2, .int .i64 4, .int .i64 5, .int .i64 6, .int .i64 128, .int .i64 129, .int .i64 130]) (ok := fun _ => True) (okp := fun _ => True) ?hr ?hp (fun _ hk => hk) trivial (Below.refl _ _) (Nat.le_refl _) zq134 ?_; (case hd => rfl); (case hg => rfl); (case hr => first | (go_simp; done) | (go_simp; rfl)); (case hp => exact (Reps.one (show Kd.M (Kd.int .i64) _ _ _ 0 [.int .i64 0] from rfl) (Reps.one (show Kd.M (Kd.int .i64) _ _ _ 1 [.int .i64 1] from rfl) (Reps.one (show Kd.M (Kd.int .i64) _ _ _ 2 [.int .i64 2] from rfl) (Reps.one (show Kd.M (Kd.int .i64) _ _ _ 4 [.int .i64 4] from rfl) (Reps.one (show Kd.M (Kd.int .i64) _ _ _ 5 [.int .i64 5] from rfl) (Reps.one (show Kd.M (Kd.int .i64) _ _ _ 6 [.int .i64 6] from rfl) (Reps.one (show Kd.M (Kd.int .i64) _ _ _ 128 [.int .i64 128] from rfl) (Reps.one (show Kd.M (Kd.int .i64) _ _ _ 129 [.int .i64 129] from rfl) (Reps.one (show Kd.M (Kd.int .i64) _ _ _ 130 [.int .i64 130] from rfl) (Reps.none _ _))))))))))); intro v330 w20 ho21 hb hg_ hnew_; clear hg_ hnew_; (first | rw [← Ny329.out] at ho21 | (simp only [Int.reduceToNat] at ho21; rw [← Ny329.out] at ho21)); have HO331 := zA (Kd.R_lower (Kd.R_new' ho21 (Kd.R_lt zq87)) (keep_size (w := w) (g := g) (row := none) zq21)); replace HO322 := zA (Kd.R_elder' zq87 (Kd.R_base ho21) hb); replace BK316 := zA (blk_below (g := gb316) (o := .cells #[.int .i64 0, .int .i64 0, .string (⟨#[]⟩ : ByteArray), .slice none 0 0] 76 (0, 0)) zq70 hb); replace BK325 := zA (blk_below (g := gb325) (o := .cells #[.int .i64 t317, .int .i64 t318, .string t319, .slice Ao12 t320.length co12] 76 (0, 0)) zq122 hb); replace HK := zA (KeepBut.trans zq21 (KeepBut.of_below hb g none) (.inl rfl)); replace HB := zA (below_step zq46 hb); replace HI0 := zA (IsS170.below zq45 hb); clear hb ho21; obtain ⟨Ao22, co22, eo22⟩ := Kd.R_slice HO331.out; subst eo22) | ((with_reducible refine gate_callee (f := 140) rfl ?_); refine goesL_ (some 12) rfl rfl Try.func140 (by kernel_rfl) rfl #[.pointer (some ⟨g, 0, none⟩), .slice Ao22 y329.length co22] rfl zq1 ?_; (with_reducible refine (spec_l1Int.calls g s0_0 t327 t328 _ _ y329 t332 t333 t334 w0 _ ?side1 ?side2 ?side3 ?side4 ?side5 A18.out).mono ?_); (case side1 => repeat (first | (with_reducible first | exact HI0.out | apply IsS170.alloc | apply IsS170.drewN | apply IsS170.drew | apply IsS170.set_1 | apply IsS170.set_2 | refine IsS170.far ?_ NB0_316.out _ | refine IsS170.far ?_ NB0_325.out _) | exact HI0.out)); (case side2 => repeat (first | (with_reducible first | exact HB.out | apply below_alloc | apply pw_below_drewN | apply below_drew1 | refine below_set ?_ (IsS170.ge HI0.out) | refine below_set ?_ GE316.out | refine below_set ?_ GE325.out) | exact HB.out)); (case side3 => repeat (first | exact (Kd.R_reads' HO331.out).2.2 | (with_reducible refine Kd.C_alloc ?_ _) | (with_reducible refine Kd.C_drewN ?_ _) | (with_reducible refine Kd.C_drew ?_))); (case side4 => exact (Kd.R_reads' HO331.out).2.1); (case side5 => exact far_slice (IsS170.own_ne HI0.out HO331.out zq39)); rintro e w23 ⟨rfl, hi, hb, hk⟩; refine ⟨_, rfl, ?_⟩; replace BK316 := zA (KeepBut.blk hk (g' := gb316) (o := .cells #[.int .i64 0, .int .i64 0, .string (⟨#[]⟩ : ByteArray), .slice none 0 0] 76 (0, 0)) zq70 NB316_0.out zq134); replace HO322 := zA (Kd.R_mono (Kd.R_keep (IsS170.apart (show IsS170 w0 _ g s0_0 t327 t328 from by repeat (first | (with_reducible first | exact HI0.out | apply IsS170.alloc | apply IsS170.drewN | apply IsS170.drew | apply IsS170.set_1 | apply IsS170.set_2 | refine IsS170.far ?_ NB0_316.out _ | refine IsS170.far ?_ NB0_325.out _) | exact HI0.out)) zq87 zq39) hk (fun _ h => h.2)) (fun _ h => h.1)); replace BK325 := zA (KeepBut.blk hk (g' := gb325) (o := .cells #[.int .i64 t317, .int .i64 t318, .string t319, .slice Ao12 t320.length co12] 76 (0, 0)) zq122 NB325_0.out zq134); replace HO331 := zA (Kd.R_mono (Kd.R_keep (IsS170.apart (show IsS170 w0 _ g s0_0 t327 t328 from by repeat (first | (with_reducible first | exact HI0.out | apply IsS170.alloc | apply IsS170.drewN | apply IsS170.drew | apply IsS170.set_1 | apply IsS170.set_2 | refine IsS170.far ?_ NB0_316.out _ | refine IsS170.far ?_ NB0_325.out _) | exact HI0.out)) (by (with_reducible repeat (first | apply Kd.R_alloc | apply Kd.R_drewN | apply Kd.R_drew)); exact HO331.out) zq39) hk (fun _ h => h.2)) (fun _ h => h.1)); replace HK := zA (KeepBut.trans zq21 hk (.inl rfl)); replace HB := zA (hb); replace HI0 := zA (hi); clear hb hk hi; have hnb24 := NB325_316.out; have hnc24 := NB316_325.out; have hnb25 := NB325_0.out; have hnc25 := NB0_325.out; have hcz26_0 : w23.cell? ⟨gb325, 0, none⟩ = some (.int .i64 t317) := (blk_cell BK325.out 0).trans rfl; have hcz26_1 : w23.cell? ⟨gb325, 1, none⟩ = some (.int .i64 t318) := (blk_cell BK325.out 1).trans rfl; have hcz26_2 : w23.cell? ⟨gb325, 2, none⟩ = some (.string t319) := (blk_cell BK325.out 2).trans rfl; have hcz26_3 : w23.cell? ⟨gb325, 3, none⟩ = some (.slice Ao12 t320.length co12) := (blk_cell BK325.out 3).trans rfl; have hfz26_0 := blk_frozen BK325.out 0; have hfz26_1 := blk_frozen BK325.out 1; have hfz26_2 := blk_frozen BK325.out 2; have hfz26_3 := blk_frozen BK325.out 3))
  (try simp only [Act.put, List.setIfInBounds_toArray, List.set_cons_zero, List.set_cons_succ])
  have H := HC19.out
  clear HC19
  simp only [Option.some.injEq, Prod.mk.injEq] at H
  obtain ⟨rfl, rfl, rfl, rfl, rfl, rfl⟩ := H
  have hnb27 := NB325_316.out
  have hnc27 := NB316_325.out
  have hnb28 := NB325_0.out
  have hnc28 := NB0_325.out
  have hcz29_0 : w23.cell? ⟨gb325, 0, none⟩ = some (.int .i64 t317) := (blk_cell BK325.out 0).trans rfl
  have hcz29_1 : w23.cell? ⟨gb325, 1, none⟩ = some (.int .i64 t318) := (blk_cell BK325.out 1).trans rfl
  have hcz29_2 : w23.cell? ⟨gb325, 2, none⟩ = some (.string t319) := (blk_cell BK325.out 2).trans rfl
  have hcz29_3 : w23.cell? ⟨gb325, 3, none⟩ = some (.slice Ao12 t320.length co12) := (blk_cell BK325.out 3).trans rfl
  have hfz29_0 := blk_frozen BK325.out 0
  have hfz29_1 := blk_frozen BK325.out 1
  have hfz29_2 := blk_frozen BK325.out 2
  have hfz29_3 := blk_frozen BK325.out 3
  have hnb30 := NB316_0.out
  have hnc30 := NB0_316.out
  have hcz31_0 : w23.cell? ⟨gb316, 0, none⟩ = some (.int .i64 0) := (blk_cell BK316.out 0).trans rfl
  have hcz31_1 : w23.cell? ⟨gb316, 1, none⟩ = some (.int .i64 0) := (blk_cell BK316.out 1).trans rfl
  have hcz31_2 : w23.cell? ⟨gb316, 2, none⟩ = some (.string (⟨#[]⟩ : ByteArray)) := (blk_cell BK316.out 2).trans rfl
  have hcz31_3 : w23.cell? ⟨gb316, 3, none⟩ = some (.slice none 0 0) := (blk_cell BK316.out 3).trans rfl
  have hfz31_0 := blk_frozen BK316.out 0
  have hfz31_1 := blk_frozen BK316.out 1
  have hfz31_2 := blk_frozen BK316.out 2
  have hfz31_3 := blk_frozen BK316.out 3
  go_wp2
  refine bodyPost_ret (results_cell_row rfl _ _ gb316 76 #[.int .i64 t332, .int .i64 t318, .string t319, .slice Ao12 t320.length co12] (0, 0) _ rfl (by (with_reducible repeat (first | refine blk_drewN ?_ _ | refine blk_drew ?_ | refine blk_alloc ?_ _)); refine blk_put (cs := #[.int .i64 t332, .int .i64 t318, .string t319, .slice none 0 0]) ?_ 3 _ rfl; (with_reducible repeat (first | refine blk_drewN ?_ _ | refine blk_drew ?_ | refine blk_alloc ?_ _)); refine blk_put (cs := #[.int .i64 t332, .int .i64 t318, .string (⟨#[]⟩ : ByteArray), .slice none 0 0]) ?_ 2 _ rfl; (with_reducible repeat (first | refine blk_drewN ?_ _ | refine blk_drew ?_ | refine blk_alloc ?_ _)); refine blk_put (cs := #[.int .i64 t332, .int .i64 0, .string (⟨#[]⟩ : ByteArray), .slice none 0 0]) ?_ 1 _ rfl; (with_reducible repeat (first | refine blk_drewN ?_ _ | refine blk_drew ?_ | refine blk_alloc ?_ _)); refine blk_put (cs := #[.int .i64 0, .int .i64 0, .string (⟨#[]⟩ : ByteArray), .slice none 0 0]) ?_ 0 _ rfl; (with_reducible repeat (first | refine blk_drewN ?_ _ | refine blk_drew ?_ | refine blk_alloc ?_ _)); refine blk_far ?_ NB316_325.out _; (with_reducible repeat (first | refine blk_drewN ?_ _ | refine blk_drew ?_ | refine blk_alloc ?_ _)); exact BK316.out) Try.underlying76 rfl (by kernel_rfl)) rfl ?_
  exact ⟨_, zq2, (by (with_reducible repeat (first | apply Kd.R_alloc | apply Kd.R_drewN | apply Kd.R_drew)); exact Kd.R_mono (Kd.R_far (p := ⟨gb316, 3, none⟩) (Kd.R_far (p := ⟨gb316, 2, none⟩) (Kd.R_far (p := ⟨gb316, 1, none⟩) (Kd.R_far (p := ⟨gb316, 0, none⟩) (Kd.R_far (p := ⟨gb325, 0, none⟩) (Kd.R_types (Kd.R_types HO322.out BK325.out zq39) BK316.out zq39) (fun _ hk => hk.1.2) (.int .i64 t332)) (fun _ hk => hk.2) (.int .i64 t332)) (fun _ hk => hk.2) (.int .i64 t318)) (fun _ hk => hk.2) (.string t319)) (fun _ hk => hk.2) (.slice Ao12 t320.length co12)) (fun _ hk => trivial)), zq45, zq46, zq21⟩
 ·rw [if_neg c16] at H
  have c16b0 : (t326 == 0) = false := beq_eq_false_iff_ne.mpr c16
  have c16b1 : (t326 != 0) = true := bne_iff_ne.mpr c16
  have HC32 := zA H
  clear H
  go_upto_region 5 with (fail)
  have H := HC32.out
  clear HC32
  by_cases c33 : t326 = 1
  ·rw [if_pos c33] at H
   have c33b0 : (t326 == 1) = true := beq_iff_eq.mpr c33
   have c33b1 : (t326 != 1) = false := bne_eq_false_iff_eq.mpr c33
   clear c33
   have HC34 := zA H
   clear H
   go_upto_region 6 with (fail)
   have H := HC34.out
   clear HC34
   obtain ⟨⟨t335, t336, t337⟩, A35, H⟩ := zB H
   try dsimp only at H
   have HC36 := zA H
   clear H
   go_upto_region 11 with (first | ((with_reducible refine gate_callee (f := 181) rfl ?_); refine goesL_ (some 17) rfl rfl Try.func181 (by kernel_rfl) rfl #[.pointer (some ⟨g, 0, none⟩)] rfl zq1 ?_; (with_reducible refine (spec_l1Num.calls g s0_0 t327 t328 t335 t336 t337 w0 _ ?side1 ?side2 A35.out).mono ?_); (case side1 => repeat (first | (with_reducible first | exact HI0.out | apply IsS170.alloc | apply IsS170.drewN | apply IsS170.drew | apply IsS170.set_1 | apply IsS170.set_2 | refine IsS170.far ?_ NB0_316.out _ | refine IsS170.far ?_ NB0_325.out _) | exact HI0.out)); (case side2 => repeat (first | (with_reducible first | exact HB.out | apply below_alloc | apply pw_below_drewN | apply below_drew1 | refine below_set ?_ (IsS170.ge HI0.out) | refine below_set ?_ GE316.out | refine below_set ?_ GE325.out) | exact HB.out)); rintro e w37 ⟨rfl, hi, hb, hk⟩; refine ⟨_, rfl, ?_⟩; replace BK316 := zA (KeepBut.blk hk (g' := gb316) (o := .cells #[.int .i64 0, .int .i64 0, .string (⟨#[]⟩ : ByteArray), .slice none 0 0] 76 (0, 0)) zq70 NB316_0.out zq134); replace HO322 := zA (Kd.R_mono (Kd.R_keep (IsS170.apart (show IsS170 w0 _ g s0_0 t327 t328 from by repeat (first | (with_reducible first | exact HI0.out | apply IsS170.alloc | apply IsS170.drewN | apply IsS170.drew | apply IsS170.set_1 | apply IsS170.set_2 | refine IsS170.far ?_ NB0_316.out _ | refine IsS170.far ?_ NB0_325.out _) | exact HI0.out)) zq87 zq39) hk (fun _ h => h.2)) (fun _ h => h.1)); replace BK325 := zA (KeepBut.blk hk (g' := gb325) (o := .cells #[.int .i64 t317, .int .i64 t318, .string t319, .slice Ao12 t320.length co12] 76 (0, 0)) zq122 NB325_0.out zq134); replace HK := zA (KeepBut.trans zq21 hk (.inl rfl)); replace HB := zA (hb); replace HI0 := zA (hi); clear hb hk hi; have hnb38 := NB325_316.out; have hnc38 := NB316_325.out; have hnb39 := NB325_0.out; have hnc39 := NB0_325.out; have hcz40_0 : w37.cell? ⟨gb325, 0, none⟩ = some (.int .i64 t317) := (blk_cell BK325.out 0).trans rfl; have hcz40_1 : w37.cell? ⟨gb325, 1, none⟩ = some (.int .i64 t318) := (blk_cell BK325.out 1).trans rfl; have hcz40_2 : w37.cell? ⟨gb325, 2, none⟩ = some (.string t319) := (blk_cell BK325.out 2).trans rfl; have hcz40_3 : w37.cell? ⟨gb325, 3, none⟩ = some (.slice Ao12 t320.length co12) := (blk_cell BK325.out 3).trans rfl; have hfz40_0 := blk_frozen BK325.out 0; have hfz40_1 := blk_frozen BK325.out 1; have hfz40_2 := blk_frozen BK325.out 2; have hfz40_3 := blk_frozen BK325.out 3))
   (try simp only [Act.put, List.setIfInBounds_toArray, List.set_cons_zero, List.set_cons_succ])
   have H := HC36.out
   clear HC36
   simp only [Option.some.injEq, Prod.mk.injEq] at H
   obtain ⟨rfl, rfl, rfl, rfl, rfl, rfl⟩ := H
   have hnb41 := NB325_316.out
   have hnc41 := NB316_325.out
   have hnb42 := NB325_0.out
   have hnc42 := NB0_325.out
   have hcz43_0 : w37.cell? ⟨gb325, 0, none⟩ = some (.int .i64 t317) := (blk_cell BK325.out 0).trans rfl
   have hcz43_1 : w37.cell? ⟨gb325, 1, none⟩ = some (.int .i64 t318) := (blk_cell BK325.out 1).trans rfl
   have hcz43_2 : w37.cell? ⟨gb325, 2, none⟩ = some (.string t319) := (blk_cell BK325.out 2).trans rfl
   have hcz43_3 : w37.cell? ⟨gb325, 3, none⟩ = some (.slice Ao12 t320.length co12) := (blk_cell BK325.out 3).trans rfl
   have hfz43_0 := blk_frozen BK325.out 0
   have hfz43_1 := blk_frozen BK325.out 1
   have hfz43_2 := blk_frozen BK325.out 2
   have hfz43_3 := blk_frozen BK325.out 3
   have hnb44 := NB316_0.out
   have hnc44 := NB0_316.out
   have hcz45_0 : w37.cell? ⟨gb316, 0, none⟩ = some (.int .i64 0) := (blk_cell BK316.out 0).trans rfl
   have hcz45_1 : w37.cell? ⟨gb316, 1, none⟩ = some (.int .i64 0) := (blk_cell BK316.out 1).trans rfl
   have hcz45_2 : w37.cell? ⟨gb316, 2, none⟩ = some (.string (⟨#[]⟩ : ByteArray)) := (blk_cell BK316.out 2).trans rfl
   have hcz45_3 : w37.cell? ⟨gb316, 3, none⟩ = some (.slice none 0 0) := (blk_cell BK316.out 3).trans rfl
   have hfz45_0 := blk_frozen BK316.out 0
   have hfz45_1 := blk_frozen BK316.out 1
   have hfz45_2 := blk_frozen BK316.out 2
   have hfz45_3 := blk_frozen BK316.out 3
   go_wp2
   refine bodyPost_ret (results_cell_row rfl _ _ gb316 76 #[.int .i64 t317, .int .i64 t335, .string t319, .slice Ao12 t320.length co12] (0, 0) _ rfl (by (with_reducible repeat (first | refine blk_drewN ?_ _ | refine blk_drew ?_ | refine blk_alloc ?_ _)); refine blk_put (cs := #[.int .i64 t317, .int .i64 t335, .string t319, .slice none 0 0]) ?_ 3 _ rfl; (with_reducible repeat (first | refine blk_drewN ?_ _ | refine blk_drew ?_ | refine blk_alloc ?_ _)); refine blk_put (cs := #[.int .i64 t317, .int .i64 t335, .string (⟨#[]⟩ : ByteArray), .slice none 0 0]) ?_ 2 _ rfl; (with_reducible repeat (first | refine blk_drewN ?_ _ | refine blk_drew ?_ | refine blk_alloc ?_ _)); refine blk_put (cs := #[.int .i64 t317, .int .i64 0, .string (⟨#[]⟩ : ByteArray), .slice none 0 0]) ?_ 1 _ rfl; (with_reducible repeat (first | refine blk_drewN ?_ _ | refine blk_drew ?_ | refine blk_alloc ?_ _)); refine blk_put (cs := #[.int .i64 0, .int .i64 0, .string (⟨#[]⟩ : ByteArray), .slice none 0 0]) ?_ 0 _ rfl; (with_reducible repeat (first | refine blk_drewN ?_ _ | refine blk_drew ?_ | refine blk_alloc ?_ _)); refine blk_far ?_ NB316_325.out _; (with_reducible repeat (first | refine blk_drewN ?_ _ | refine blk_drew ?_ | refine blk_alloc ?_ _)); exact BK316.out) Try.underlying76 rfl (by kernel_rfl)) rfl ?_
   exact ⟨_, zq2, (by (with_reducible repeat (first | apply Kd.R_alloc | apply Kd.R_drewN | apply Kd.R_drew)); exact Kd.R_mono (Kd.R_far (p := ⟨gb316, 3, none⟩) (Kd.R_far (p := ⟨gb316, 2, none⟩) (Kd.R_far (p := ⟨gb316, 1, none⟩) (Kd.R_far (p := ⟨gb316, 0, none⟩) (Kd.R_far (p := ⟨gb325, 1, none⟩) (Kd.R_types (Kd.R_types HO322.out BK325.out zq39) BK316.out zq39) (fun _ hk => hk.1.2) (.int .i64 t335)) (fun _ hk => hk.2) (.int .i64 t317)) (fun _ hk => hk.2) (.int .i64 t335)) (fun _ hk => hk.2) (.string t319)) (fun _ hk => hk.2) (.slice Ao12 t320.length co12)) (fun _ hk => trivial)), zq45, zq46, zq21⟩
  ·rw [if_neg c33] at H
   have c33b0 : (t326 == 1) = false := beq_eq_false_iff_ne.mpr c33
   have c33b1 : (t326 != 1) = true := bne_iff_ne.mpr c33
   have HC46 := zA H
   clear H
   go_upto_region 7 with (fail)
   have H := HC46.out
   clear HC46
   by_cases c47 : t326 = 2
   ·rw [if_pos c47] at H
    have c47b0 : (t326 == 2) = true := beq_iff_eq.mpr c47
    have c47b1 : (t326 != 2) = false := bne_eq_false_iff_eq.mpr c47
    clear c47
    have HC48 := zA H
    clear H
    go_upto_region 8 with (fail)
    have H := HC48.out
    clear HC48
    obtain ⟨⟨t338, t339, t340⟩, A49, H⟩ := zB H
    try dsimp only at H
    obtain ⟨ji50, hji50⟩ : ∃ j_ : Int, (wrap64 (20 + t338)) = j_ := ⟨_, rfl⟩
    replace H : (if 0 ≤ (ji50) then (if (ji50 : Int).toNat ≤ 281474976710656 then (some (t317, t318, strOfNums (List.replicate (ji50 : Int).toNat 0), t320, t339, t340)) else (none)) else (none)) = some (r1, r2, r3, r4, r5, r6) := by first | (rw [hji50] at H; exact H) | (simp only [hji50] at H ⊢; exact H)
    (try rw [hji50] at A49)
    have hji50w : (IntKind.i64.wrap (20 + t338)) = ji50 := (i64_w _).trans hji50
    obtain ⟨c51, H⟩ := zN H
    have c51b0 := eq_true c51
    have c51b1 : decide (0 ≤ (ji50)) = true := decide_eq_true c51
    clear c51
    obtain ⟨c52, H⟩ := zN H
    have c52b0 := eq_true c52
    have c52b1 : decide ((ji50 : Int).toNat ≤ 281474976710656) = true := decide_eq_true c52
    clear c52
    obtain ⟨y341, hy341⟩ : ∃ y_ : List Int, y_ = (List.replicate (ji50 : Int).toNat 0) := ⟨_, rfl⟩
    rw [← hy341] at H
    have Ny341 := zA hy341
    clear hy341
    have HC53 := zA H
    clear H
    go_upto_region 11 with (first | ((with_reducible refine gate_callee (f := 131) rfl ?_); refine goesL_ (some 22) rfl rfl Try.func131 (by kernel_rfl) rfl #[.pointer (some ⟨g, 0, none⟩), .int .i64 2] rfl zq1 ?_; (with_reducible refine (spec_l1Below.calls g s0_0 t327 t328 2 t338 t339 t340 w0 _ ?side1 ?side2 A49.out).mono ?_); (case side1 => repeat (first | (with_reducible first | exact HI0.out | apply IsS170.alloc | apply IsS170.drewN | apply IsS170.drew | apply IsS170.set_1 | apply IsS170.set_2 | refine IsS170.far ?_ NB0_316.out _ | refine IsS170.far ?_ NB0_325.out _) | exact HI0.out)); (case side2 => repeat (first | (with_reducible first | exact HB.out | apply below_alloc | apply pw_below_drewN | apply below_drew1 | refine below_set ?_ (IsS170.ge HI0.out) | refine below_set ?_ GE316.out | refine below_set ?_ GE325.out) | exact HB.out)); rintro e w54 ⟨rfl, hi, hb, hk⟩; refine ⟨_, rfl, ?_⟩; replace BK316 := zA (KeepBut.blk hk (g' := gb316) (o := .cells #[.int .i64 0, .int .i64 0, .string (⟨#[]⟩ : ByteArray), .slice none 0 0] 76 (0, 0)) zq70 NB316_0.out zq134); replace HO322 := zA (Kd.R_mono (Kd.R_keep (IsS170.apart (show IsS170 w0 _ g s0_0 t327 t328 from by repeat (first | (with_reducible first | exact HI0.out | apply IsS170.alloc | apply IsS170.drewN | apply IsS170.drew | apply IsS170.set_1 | apply IsS170.set_2 | refine IsS170.far ?_ NB0_316.out _ | refine IsS170.far ?_ NB0_325.out _) | exact HI0.out)) zq87 zq39) hk (fun _ h => h.2)) (fun _ h => h.1)); replace BK325 := zA (KeepBut.blk hk (g' := gb325) (o := .cells #[.int .i64 t317, .int .i64 t318, .string t319, .slice Ao12 t320.length co12] 76 (0, 0)) zq122 NB325_0.out zq134); replace HK := zA (KeepBut.trans zq21 hk (.inl rfl)); replace HB := zA (hb); replace HI0 := zA (hi); clear hb hk hi) | ((with_reducible refine gate_dst (N := 24) rfl ?_); refine Kd.R_make (Kd.int .u8) _ 5 rfl (N := 24) rfl 22 _ _ rfl ji50 rfl rfl Try.underlying22 (.int .u8 0) 1 info5 rfl zq39 zq144 0 (ok := fun _ => True) (okp := fun _ => True) rfl (fun _ hk => hk) trivial (of_decide_eq_true zq7) (Nat.le_trans (Nat.mul_le_mul_right _ (of_decide_eq_true zq7 : ji50.toNat ≤ 281474976710656)) zq144) (Below.refl _ _) (Nat.le_refl _) ?_; intro v342 w55 ho56 hb hg_ hnew_; clear hg_ hnew_; (first | rw [← Ny341.out] at ho56 | (simp only [Int.reduceToNat] at ho56; rw [← Ny341.out] at ho56)); replace HO322 := zA (Kd.R_below zq87 hb); have HO343 := zA (Kd.R_lower ho56 (keep_size (w := w) (g := g) (row := none) zq21)); replace BK316 := zA (blk_below (g := gb316) (o := .cells #[.int .i64 0, .int .i64 0, .string (⟨#[]⟩ : ByteArray), .slice none 0 0] 76 (0, 0)) zq70 hb); replace BK325 := zA (blk_below (g := gb325) (o := .cells #[.int .i64 t317, .int .i64 t318, .string t319, .slice Ao12 t320.length co12] 76 (0, 0)) zq122 hb); replace HK := zA (KeepBut.trans zq21 (KeepBut.of_below hb g none) (.inl rfl)); replace HB := zA (below_step zq46 hb); replace HI0 := zA (IsS170.below zq45 hb); clear hb ho56; have hcv57 := own_string (P := Try.prog) Try.underlying22 Try.underlying5 Try.underlying9 (Kd.own_of_R HO343.out); have hnb58 := NB325_316.out; have hnc58 := NB316_325.out; have hnb59 := NB325_0.out; have hnc59 := NB0_325.out; have hcz60_0 : w55.cell? ⟨gb325, 0, none⟩ = some (.int .i64 t317) := (blk_cell BK325.out 0).trans rfl; have hcz60_1 : w55.cell? ⟨gb325, 1, none⟩ = some (.int .i64 t318) := (blk_cell BK325.out 1).trans rfl; have hcz60_2 : w55.cell? ⟨gb325, 2, none⟩ = some (.string t319) := (blk_cell BK325.out 2).trans rfl; have hcz60_3 : w55.cell? ⟨gb325, 3, none⟩ = some (.slice Ao12 t320.length co12) := (blk_cell BK325.out 3).trans rfl; have hfz60_0 := blk_frozen BK325.out 0; have hfz60_1 := blk_frozen BK325.out 1; have hfz60_2 := blk_frozen BK325.out 2; have hfz60_3 := blk_frozen BK325.out 3))
    (try simp only [Act.put, List.setIfInBounds_toArray, List.set_cons_zero, List.set_cons_succ])
    have H := HC53.out
    clear HC53
    simp only [Option.some.injEq, Prod.mk.injEq] at H
    obtain ⟨rfl, rfl, rfl, rfl, rfl, rfl⟩ := H
    have hnb61 := NB325_316.out
    have hnc61 := NB316_325.out
    have hnb62 := NB325_0.out
    have hnc62 := NB0_325.out
    have hcz63_0 : w55.cell? ⟨gb325, 0, none⟩ = some (.int .i64 t317) := (blk_cell BK325.out 0).trans rfl
    have hcz63_1 : w55.cell? ⟨gb325, 1, none⟩ = some (.int .i64 t318) := (blk_cell BK325.out 1).trans rfl
    have hcz63_2 : w55.cell? ⟨gb325, 2, none⟩ = some (.string t319) := (blk_cell BK325.out 2).trans rfl
    have hcz63_3 : w55.cell? ⟨gb325, 3, none⟩ = some (.slice Ao12 t320.length co12) := (blk_cell BK325.out 3).trans rfl
    have hfz63_0 := blk_frozen BK325.out 0
    have hfz63_1 := blk_frozen BK325.out 1
    have hfz63_2 := blk_frozen BK325.out 2
    have hfz63_3 := blk_frozen BK325.out 3
    have hnb64 := NB316_0.out
    have hnc64 := NB0_316.out
    have hcz65_0 : w55.cell? ⟨gb316, 0, none⟩ = some (.int .i64 0) := (blk_cell BK316.out 0).trans rfl
    have hcz65_1 : w55.cell? ⟨gb316, 1, none⟩ = some (.int .i64 0) := (blk_cell BK316.out 1).trans rfl
    have hcz65_2 : w55.cell? ⟨gb316, 2, none⟩ = some (.string (⟨#[]⟩ : ByteArray)) := (blk_cell BK316.out 2).trans rfl
    have hcz65_3 : w55.cell? ⟨gb316, 3, none⟩ = some (.slice none 0 0) := (blk_cell BK316.out 3).trans rfl
    have hfz65_0 := blk_frozen BK316.out 0
    have hfz65_1 := blk_frozen BK316.out 1
    have hfz65_2 := blk_frozen BK316.out 2
    have hfz65_3 := blk_frozen BK316.out 3
    go_wp2
    refine bodyPost_ret (results_cell_row rfl _ _ gb316 76 #[.int .i64 t317, .int .i64 t318, .string (strOfNums y341), .slice Ao12 t320.length co12] (0, 0) _ rfl (by (with_reducible repeat (first | refine blk_drewN ?_ _ | refine blk_drew ?_ | refine blk_alloc ?_ _)); refine blk_put (cs := #[.int .i64 t317, .int .i64 t318, .string (strOfNums y341), .slice none 0 0]) ?_ 3 _ rfl; (with_reducible repeat (first | refine blk_drewN ?_ _ | refine blk_drew ?_ | refine blk_alloc ?_ _)); refine blk_put (cs := #[.int .i64 t317, .int .i64 t318, .string (⟨#[]⟩ : ByteArray), .slice none 0 0]) ?_ 2 _ rfl; (with_reducible repeat (first | refine blk_drewN ?_ _ | refine blk_drew ?_ | refine blk_alloc ?_ _)); refine blk_put (cs := #[.int .i64 t317, .int .i64 0, .string (⟨#[]⟩ : ByteArray), .slice none 0 0]) ?_ 1 _ rfl; (with_reducible repeat (first | refine blk_drewN ?_ _ | refine blk_drew ?_ | refine blk_alloc ?_ _)); refine blk_put (cs := #[.int .i64 0, .int .i64 0, .string (⟨#[]⟩ : ByteArray), .slice none 0 0]) ?_ 0 _ rfl; (with_reducible repeat (first | refine blk_drewN ?_ _ | refine blk_drew ?_ | refine blk_alloc ?_ _)); refine blk_far ?_ NB316_325.out _; (with_reducible repeat (first | refine blk_drewN ?_ _ | refine blk_drew ?_ | refine blk_alloc ?_ _)); exact BK316.out) Try.underlying76 rfl (by kernel_rfl)) rfl ?_
    exact ⟨_, (by first | rfl | (simp [errW_none, errW_some] <;> rfl) | (simp only [← hji50]; first | rfl | (simp [errW_none, errW_some] <;> rfl)) | (simp [*, errW_none, errW_some] <;> rfl)), (by (with_reducible repeat (first | apply Kd.R_alloc | apply Kd.R_drewN | apply Kd.R_drew)); exact Kd.R_mono (Kd.R_far (p := ⟨gb316, 3, none⟩) (Kd.R_far (p := ⟨gb316, 2, none⟩) (Kd.R_far (p := ⟨gb316, 1, none⟩) (Kd.R_far (p := ⟨gb316, 0, none⟩) (Kd.R_far (p := ⟨gb325, 2, none⟩) (Kd.R_types (Kd.R_types HO322.out BK325.out zq39) BK316.out zq39) (fun _ hk => hk.1.2) (.string (strOfNums y341))) (fun _ hk => hk.2) (.int .i64 t317)) (fun _ hk => hk.2) (.int .i64 t318)) (fun _ hk => hk.2) (.string (strOfNums y341))) (fun _ hk => hk.2) (.slice Ao12 t320.length co12)) (fun _ hk => trivial)), zq45, zq46, zq21⟩
   ·rw [if_neg c47] at H
    have c47b0 : (t326 == 2) = false := beq_eq_false_iff_ne.mpr c47
    have c47b1 : (t326 != 2) = true := bne_iff_ne.mpr c47
    have HC66 := zA H
    clear H
    go_upto_region 9 with (fail)
    have H := HC66.out
    clear HC66
    by_cases c67 : t326 = 3
    ·rw [if_pos c67] at H
     have c67b0 : (t326 == 3) = true := beq_iff_eq.mpr c67
     have c67b1 : (t326 != 3) = false := bne_eq_false_iff_eq.mpr c67
     clear c67
     have HC68 := zA H
     clear H
     go_upto_region 10 with (fail)
     have H := HC68.out
     clear HC68
     obtain ⟨⟨t344, t347, t348⟩, A69, H⟩ := zB H
     try dsimp only at H
     have HC70 := zA H
     clear H
     go_upto_region 11 with (first | ((with_reducible refine gate_callee (f := 179) rfl ?_); refine goesL_ (some 30) rfl rfl Try.func179 (by kernel_rfl) rfl #[.pointer (some ⟨g, 0, none⟩)] rfl zq1 ?_; (with_reducible refine (spec_l2Any.calls k g s0_0 t327 t328 t344 t347 t348 w0 _ ?side1 ?side2 A69.out).mono ?_); (case side1 => repeat (first | (with_reducible first | exact HI0.out | apply IsS170.alloc | apply IsS170.drewN | apply IsS170.drew | apply IsS170.set_1 | apply IsS170.set_2 | refine IsS170.far ?_ NB0_316.out _ | refine IsS170.far ?_ NB0_325.out _) | exact HI0.out)); (case side2 => repeat (first | (with_reducible first | exact HB.out | apply below_alloc | apply pw_below_drewN | apply below_drew1 | refine below_set ?_ (IsS170.ge HI0.out) | refine below_set ?_ GE316.out | refine below_set ?_ GE325.out) | exact HB.out)); rintro e w71 ⟨v345, rfl, ho0, hi, hb, hk⟩; refine ⟨_, rfl, ?_⟩; replace BK316 := zA (KeepBut.blk hk (g' := gb316) (o := .cells #[.int .i64 0, .int .i64 0, .string (⟨#[]⟩ : ByteArray), .slice none 0 0] 76 (0, 0)) zq70 NB316_0.out zq134); replace BK325 := zA (KeepBut.blk hk (g' := gb325) (o := .cells #[.int .i64 t317, .int .i64 t318, .string t319, .slice Ao12 t320.length co12] 76 (0, 0)) zq122 NB325_0.out zq134); have HO346 := zA (Kd.R_lower (Kd.R_new' ho0 (Kd.R_lt zq87)) (keep_size (w := w) (g := g) (row := none) zq21)); replace HO322 := zA (Kd.R_mono (Kd.R_told (Kd.R_oldK (IsS170.apart (show IsS170 w0 _ g s0_0 t327 t328 from by repeat (first | (with_reducible first | exact HI0.out | apply IsS170.alloc | apply IsS170.drewN | apply IsS170.drew | apply IsS170.set_1 | apply IsS170.set_2 | refine IsS170.far ?_ NB0_316.out _ | refine IsS170.far ?_ NB0_325.out _) | exact HI0.out)) zq87 zq39) hk) (Kd.R_base ho0)) (fun _ h_ => h_.1)); replace HK := zA (KeepBut.trans zq21 hk (.inl rfl)); replace HB := zA (hb); replace HI0 := zA (hi); clear hb hk hi ho0; obtain ⟨Ao72, co72, eo72⟩ := Kd.R_slice HO346.out; subst eo72; have hnb73 := NB325_316.out; have hnc73 := NB316_325.out; have hnb74 := NB325_0.out; have hnc74 := NB0_325.out; have hcz75_0 : w71.cell? ⟨gb325, 0, none⟩ = some (.int .i64 t317) := (blk_cell BK325.out 0).trans rfl; have hcz75_1 : w71.cell? ⟨gb325, 1, none⟩ = some (.int .i64 t318) := (blk_cell BK325.out 1).trans rfl; have hcz75_2 : w71.cell? ⟨gb325, 2, none⟩ = some (.string t319) := (blk_cell BK325.out 2).trans rfl; have hcz75_3 : w71.cell? ⟨gb325, 3, none⟩ = some (.slice Ao12 t320.length co12) := (blk_cell BK325.out 3).trans rfl; have hfz75_0 := blk_frozen BK325.out 0; have hfz75_1 := blk_frozen BK325.out 1; have hfz75_2 := blk_frozen BK325.out 2; have hfz75_3 := blk_frozen BK325.out 3))
     (try simp only [Act.put, List.setIfInBounds_toArray, List.set_cons_zero, List.set_cons_succ])
     have H := HC70.out
     clear HC70
     simp only [Option.some.injEq, Prod.mk.injEq] at H
     obtain ⟨rfl, rfl, rfl, rfl, rfl, rfl⟩ := H
     have hnb76 := NB325_316.out
     have hnc76 := NB316_325.out
     have hnb77 := NB325_0.out
     have hnc77 := NB0_325.out
     have hcz78_0 : w71.cell? ⟨gb325, 0, none⟩ = some (.int .i64 t317) := (blk_cell BK325.out 0).trans rfl
     have hcz78_1 : w71.cell? ⟨gb325, 1, none⟩ = some (.int .i64 t318) := (blk_cell BK325.out 1).trans rfl
     have hcz78_2 : w71.cell? ⟨gb325, 2, none⟩ = some (.string t319) := (blk_cell BK325.out 2).trans rfl
     have hcz78_3 : w71.cell? ⟨gb325, 3, none⟩ = some (.slice Ao12 t320.length co12) := (blk_cell BK325.out 3).trans rfl
     have hfz78_0 := blk_frozen BK325.out 0
     have hfz78_1 := blk_frozen BK325.out 1
     have hfz78_2 := blk_frozen BK325.out 2
     have hfz78_3 := blk_frozen BK325.out 3
     have hnb79 := NB316_0.out
     have hnc79 := NB0_316.out
     have hcz80_0 : w71.cell? ⟨gb316, 0, none⟩ = some (.int .i64 0) := (blk_cell BK316.out 0).trans rfl
     have hcz80_1 : w71.cell? ⟨gb316, 1, none⟩ = some (.int .i64 0) := (blk_cell BK316.out 1).trans rfl
     have hcz80_2 : w71.cell? ⟨gb316, 2, none⟩ = some (.string (⟨#[]⟩ : ByteArray)) := (blk_cell BK316.out 2).trans rfl
     have hcz80_3 : w71.cell? ⟨gb316, 3, none⟩ = some (.slice none 0 0) := (blk_cell BK316.out 3).trans rfl
     have hfz80_0 := blk_frozen BK316.out 0
     have hfz80_1 := blk_frozen BK316.out 1
     have hfz80_2 := blk_frozen BK316.out 2
     have hfz80_3 := blk_frozen BK316.out 3
     go_wp2
     refine bodyPost_ret (results_cell_row rfl _ _ gb316 76 #[.int .i64 t317, .int .i64 t318, .string t319, .slice Ao72 t344.length co72] (0, 0) _ rfl (by (with_reducible repeat (first | refine blk_drewN ?_ _ | refine blk_drew ?_ | refine blk_alloc ?_ _)); refine blk_put (cs := #[.int .i64 t317, .int .i64 t318, .string t319, .slice none 0 0]) ?_ 3 _ rfl; (with_reducible repeat (first | refine blk_drewN ?_ _ | refine blk_drew ?_ | refine blk_alloc ?_ _)); refine blk_put (cs := #[.int .i64 t317, .int .i64 t318, .string (⟨#[]⟩ : ByteArray), .slice none 0 0]) ?_ 2 _ rfl; (with_reducible repeat (first | refine blk_drewN ?_ _ | refine blk_drew ?_ | refine blk_alloc ?_ _)); refine blk_put (cs := #[.int .i64 t317, .int .i64 0, .string (⟨#[]⟩ : ByteArray), .slice none 0 0]) ?_ 1 _ rfl; (with_reducible repeat (first | refine blk_drewN ?_ _ | refine blk_drew ?_ | refine blk_alloc ?_ _)); refine blk_put (cs := #[.int .i64 0, .int .i64 0, .string (⟨#[]⟩ : ByteArray), .slice none 0 0]) ?_ 0 _ rfl; (with_reducible repeat (first | refine blk_drewN ?_ _ | refine blk_drew ?_ | refine blk_alloc ?_ _)); refine blk_far ?_ NB316_325.out _; (with_reducible repeat (first | refine blk_drewN ?_ _ | refine blk_drew ?_ | refine blk_alloc ?_ _)); exact BK316.out) Try.underlying76 rfl (by kernel_rfl)) rfl ?_
     exact ⟨_, zq2, (by (with_reducible repeat (first | apply Kd.R_alloc | apply Kd.R_drewN | apply Kd.R_drew)); exact Kd.R_mono (Kd.R_far (p := ⟨gb316, 3, none⟩) (Kd.R_far (p := ⟨gb316, 2, none⟩) (Kd.R_far (p := ⟨gb316, 1, none⟩) (Kd.R_far (p := ⟨gb316, 0, none⟩) (Kd.R_far (p := ⟨gb325, 3, none⟩) (Kd.R_types (Kd.R_types HO346.out BK325.out zq39) BK316.out zq39) (fun _ hk => hk.1.2) (.slice Ao72 t344.length co72)) (fun _ hk => hk.2) (.int .i64 t317)) (fun _ hk => hk.2) (.int .i64 t318)) (fun _ hk => hk.2) (.string t319)) (fun _ hk => hk.2) (.slice Ao72 t344.length co72)) (fun _ hk => trivial)), zq45, zq46, zq21⟩
    ·rw [if_neg c67] at H
     have c67b0 : (t326 == 3) = false := beq_eq_false_iff_ne.mpr c67
     have c67b1 : (t326 != 3) = true := bne_iff_ne.mpr c67
     have HC81 := zA H
     clear H
     go_upto_region 11 with (fail)
     have H := HC81.out
     clear HC81
     simp only [Option.some.injEq, Prod.mk.injEq] at H
     obtain ⟨rfl, rfl, rfl, rfl, rfl, rfl⟩ := H
     have hnb82 := NB325_316.out
     have hnc82 := NB316_325.out
     have hnb83 := NB325_0.out
     have hnc83 := NB0_325.out
     have hcz84_0 : w15.cell? ⟨gb325, 0, none⟩ = some (.int .i64 t317) := (blk_cell BK325.out 0).trans rfl
     have hcz84_1 : w15.cell? ⟨gb325, 1, none⟩ = some (.int .i64 t318) := (blk_cell BK325.out 1).trans rfl
     have hcz84_2 : w15.cell? ⟨gb325, 2, none⟩ = some (.string t319) := (blk_cell BK325.out 2).trans rfl
     have hcz84_3 : w15.cell? ⟨gb325, 3, none⟩ = some (.slice Ao12 t320.length co12) := (blk_cell BK325.out 3).trans rfl
     have hfz84_0 := blk_frozen BK325.out 0
     have hfz84_1 := blk_frozen BK325.out 1
     have hfz84_2 := blk_frozen BK325.out 2
     have hfz84_3 := blk_frozen BK325.out 3
     have hnb85 := NB316_0.out
     have hnc85 := NB0_316.out
     have hcz86_0 : w15.cell? ⟨gb316, 0, none⟩ = some (.int .i64 0) := (blk_cell BK316.out 0).trans rfl
     have hcz86_1 : w15.cell? ⟨gb316, 1, none⟩ = some (.int .i64 0) := (blk_cell BK316.out 1).trans rfl
     have hcz86_2 : w15.cell? ⟨gb316, 2, none⟩ = some (.string (⟨#[]⟩ : ByteArray)) := (blk_cell BK316.out 2).trans rfl
     have hcz86_3 : w15.cell? ⟨gb316, 3, none⟩ = some (.slice none 0 0) := (blk_cell BK316.out 3).trans rfl
     have hfz86_0 := blk_frozen BK316.out 0
     have hfz86_1 := blk_frozen BK316.out 1
     have hfz86_2 := blk_frozen BK316.out 2
     have hfz86_3 := blk_frozen BK316.out 3
     go_wp2
     refine bodyPost_ret (results_cell_row rfl _ _ gb316 76 #[.int .i64 t317, .int .i64 t318, .string t319, .slice Ao12 t320.length co12] (0, 0) _ rfl (by (with_reducible repeat (first | refine blk_drewN ?_ _ | refine blk_drew ?_ | refine blk_alloc ?_ _)); refine blk_put (cs := #[.int .i64 t317, .int .i64 t318, .string t319, .slice none 0 0]) ?_ 3 _ rfl; (with_reducible repeat (first | refine blk_drewN ?_ _ | refine blk_drew ?_ | refine blk_alloc ?_ _)); refine blk_put (cs := #[.int .i64 t317, .int .i64 t318, .string (⟨#[]⟩ : ByteArray), .slice none 0 0]) ?_ 2 _ rfl; (with_reducible repeat (first | refine blk_drewN ?_ _ | refine blk_drew ?_ | refine blk_alloc ?_ _)); refine blk_put (cs := #[.int .i64 t317, .int .i64 0, .string (⟨#[]⟩ : ByteArray), .slice none 0 0]) ?_ 1 _ rfl; (with_reducible repeat (first | refine blk_drewN ?_ _ | refine blk_drew ?_ | refine blk_alloc ?_ _)); refine blk_put (cs := #[.int .i64 0, .int .i64 0, .string (⟨#[]⟩ : ByteArray), .slice none 0 0]) ?_ 0 _ rfl; (with_reducible repeat (first | refine blk_drewN ?_ _ | refine blk_drew ?_ | refine blk_alloc ?_ _)); exact BK316.out) Try.underlying76 rfl (by kernel_rfl)) rfl ?_
     exact ⟨_, zq2, (by (with_reducible repeat (first | apply Kd.R_alloc | apply Kd.R_drewN | apply Kd.R_drew)); exact Kd.R_mono (Kd.R_far (p := ⟨gb316, 3, none⟩) (Kd.R_far (p := ⟨gb316, 2, none⟩) (Kd.R_far (p := ⟨gb316, 1, none⟩) (Kd.R_far (p := ⟨gb316, 0, none⟩) (Kd.R_types HO322.out BK316.out zq39) (fun _ hk => hk.2) (.int .i64 t317)) (fun _ hk => hk.2) (.int .i64 t318)) (fun _ hk => hk.2) (.string t319)) (fun _ hk => hk.2) (.slice Ao12 t320.length co12)) (fun _ hk => trivial)), zq45, zq46, zq21⟩

/-! ### spec_DrawPutVal: function 86 -/
def spec_DrawPutVal.f (k : Nat) (l0 : List Int) : Option (List Int × Int × Int × ByteArray × List Int) := (spec_l1New.f k l0).bind fun bt350 => ((spec_l1Some.f k bt350.1 bt350.2.1 bt350.2.2).bind fun bt354 => ((spec_l3Any.f k bt350.1 bt354.2.1 bt354.2.2).bind fun bt359 => (some (bt354.1, bt359.1, bt359.2.1, bt359.2.2.1, bt359.2.2.2.1))))
theorem spec_DrawPutVal.mono : ∀ a0 k, LeO (spec_DrawPutVal.f k a0) (spec_DrawPutVal.f (k + 1) a0) := by
 intro a0 k
 unfold spec_DrawPutVal.f
 have m0_ := @spec_l1New.mono
 have m1_ := @spec_l1Some.mono
 have m2_ := @spec_l3Any.mono
 exact zR
set_option maxHeartbeats 8000000 in
set_option maxRecDepth 100000 in
theorem spec_DrawPutVal.calls (k : Nat) (A0 : Option Addr) (c0 : Nat) (l0 : List Int) (r1 : List Int) (r2 : Int) (r3 : Int) (r4 : ByteArray) (r5 : List Int) (w : World) (hr0 : Kd.C (Kd.int .u8) w A0 l0.length l0) (hc0 : l0.length ≤ c0) (h : spec_DrawPutVal.f k l0 = some (r1, r2, r3, r4, r5)) :
  Calls Try.prog 86 #[.slice A0 l0.length c0] w fun e w' => ∃ v0_ v4_ : Value, e = .returned (.tuple #[v0_, .agg #[.int .i64 r2, .int .i64 r3, .string r4, v4_]]) ∧ Kd.R (Kd.int .u8) 5 w' w.heap.size (fun _ => True) v0_ r1 ∧ Kd.R (Kd.int .i64) 3 w' w.heap.size (fun _ => True) v4_ r5 ∧ Below w.heap.size w w' := by
 have hu76 := Try.underlying76
 have HR0 := zA hr0
 have HC0 := zA hc0
 clear hr0 hc0
 have HB := zA (Below.refl w.heap.size w)
 unfold spec_DrawPutVal.f at h
 have H := h
 clear h
 have HC2 := zA H
 clear H
 go_enter Try.func86, Try.ntmps86
 go_upto_region 0 with (fail)
 have H := HC2.out
 clear HC2
 have HC3 := zA H
 clear H
 go_upto_region 1 with (first | ((with_reducible refine gate_dst (N := 3) rfl ?_); refine box_event ?hg (N := 3) ?hd (cs := #[.int .i64 0, .int .i64 0, .string (⟨#[]⟩ : ByteArray), .slice none 0 0]) (t := 76) ?hr ?_; (case hd => rfl); (case hg => rfl); (case hr => first | (go_simp; done) | (go_simp; rfl)); intro gb349 hg w4 hbox hb; have BK349 := zA (hbox); have GW349 := zA ((zq11 : w.heap.size ≤ gb349)); have GE349 := zA ((zq11 : w.heap.size ≤ gb349)); replace HB := zA (below_step zq0 hb); clear hb hbox hg))
 (try simp only [Act.put, List.setIfInBounds_toArray, List.set_cons_zero, List.set_cons_succ])
 have H := HC3.out
 clear HC3
 obtain ⟨⟨t350, t351, t352⟩, A5, H⟩ := zB H
 try dsimp only at H
 have HC6 := zA H
 clear H
 go_upto_region 2 with (first | ((with_reducible refine gate_callee (f := 104) rfl ?_); refine goesL_ (some 6) rfl rfl Try.func104 (by kernel_rfl) rfl #[.slice A0 l0.length c0] rfl zq1 ?_; (with_reducible refine (spec_l1New.calls k _ _ l0 t350 t351 t352 w _ ?side1 ?side2 ?side3 A5.out).mono ?_); (case side1 => repeat (first | (with_reducible first | exact HB.out | apply below_alloc | apply pw_below_drewN | apply below_drew1 | refine below_set ?_ GE349.out) | exact HB.out)); (case side2 => exact HR0.out); (case side3 => exact HC0.out); rintro e w7 ⟨g353, rfl, hi, hb, hb2⟩; refine ⟨_, rfl, ?_⟩; replace HB := zA (hb); have HI353 := zA (hi); have NB353_349 := zA (IsS170.ne_blk hi (blk_below (g := gb349) (o := .cells #[.int .i64 0, .int .i64 0, .string (⟨#[]⟩ : ByteArray), .slice none 0 0] 76 (0, 0)) zq140 hb2) zq39); have NB349_353 := zA (Ne.symm (IsS170.ne_blk hi (blk_below (g := gb349) (o := .cells #[.int .i64 0, .int .i64 0, .string (⟨#[]⟩ : ByteArray), .slice none 0 0] 76 (0, 0)) zq140 hb2) zq39)); replace BK349 := zA (blk_below (g := gb349) (o := .cells #[.int .i64 0, .int .i64 0, .string (⟨#[]⟩ : ByteArray), .slice none 0 0] 76 (0, 0)) zq140 hb2); clear hb hb2 hi))
 (try simp only [Act.put, List.setIfInBounds_toArray, List.set_cons_zero, List.set_cons_succ])
 have H := HC6.out
 clear HC6
 obtain ⟨⟨t354, t357, t358⟩, A8, H⟩ := zB H
 try dsimp only at H
 obtain ⟨⟨t359, t360, t361, t362, t365, t366⟩, A9, H⟩ := zB H
 try dsimp only at H
 simp only [Option.some.injEq, Prod.mk.injEq] at H
 obtain ⟨rfl, rfl, rfl, rfl, rfl⟩ := H
 go_wp2_with (first | ((with_reducible refine gate_callee (f := 166) rfl ?_); refine goesL_ (some 8) rfl rfl Try.func166 (by kernel_rfl) rfl #[.pointer (some ⟨g353, 0, none⟩)] rfl zq1 ?_; (with_reducible refine (spec_l1Some.calls k g353 t350 t351 t352 t354 t357 t358 w _ ?side1 ?side2 A8.out).mono ?_); (case side1 => repeat (first | (with_reducible first | exact HI353.out | apply IsS170.alloc | apply IsS170.drewN | apply IsS170.drew | apply IsS170.set_1 | apply IsS170.set_2 | refine IsS170.far ?_ NB353_349.out _) | exact HI353.out)); (case side2 => repeat (first | (with_reducible first | exact HB.out | apply below_alloc | apply pw_below_drewN | apply below_drew1 | refine below_set ?_ (IsS170.ge HI353.out) | refine below_set ?_ GE349.out) | exact HB.out)); rintro e w10 ⟨v355, rfl, ho0, hi, hb, hk⟩; refine ⟨_, rfl, ?_⟩; replace BK349 := zA (KeepBut.blk hk (g' := gb349) (o := .cells #[.int .i64 0, .int .i64 0, .string (⟨#[]⟩ : ByteArray), .slice none 0 0] 76 (0, 0)) zq140 NB349_353.out zq134); have HO356 := zA (Kd.R_lower ho0 (below_size zq142)); replace HB := zA (hb); replace HI353 := zA (hi); clear hb hk hi ho0) | ((with_reducible refine gate_callee (f := 167) rfl ?_); refine goesL_ (some 10) rfl rfl Try.func167 (by kernel_rfl) rfl #[.pointer (some ⟨g353, 0, none⟩)] rfl zq1 ?_; (with_reducible refine (spec_l3Any.calls k g353 t350 t357 t358 t359 t360 t361 t362 t365 t366 w _ ?side1 ?side2 A9.out).mono ?_); (case side1 => repeat (first | (with_reducible first | exact HI353.out | apply IsS170.alloc | apply IsS170.drewN | apply IsS170.drew | apply IsS170.set_1 | apply IsS170.set_2 | refine IsS170.far ?_ NB353_349.out _) | exact HI353.out)); (case side2 => repeat (first | (with_reducible first | exact HB.out | apply below_alloc | apply pw_below_drewN | apply below_drew1 | refine below_set ?_ (IsS170.ge HI353.out) | refine below_set ?_ GE349.out) | exact HB.out)); rintro e w11 ⟨v363, rfl, ho0, hi, hb, hk⟩; refine ⟨_, rfl, ?_⟩; replace BK349 := zA (KeepBut.blk hk (g' := gb349) (o := .cells #[.int .i64 0, .int .i64 0, .string (⟨#[]⟩ : ByteArray), .slice none 0 0] 76 (0, 0)) zq140 NB349_353.out zq134); replace HO356 := zA (Kd.R_mono (Kd.R_keep (IsS170.apart (show IsS170 w _ g353 t350 t357 t358 from by repeat (first | (with_reducible first | exact HI353.out | apply IsS170.alloc | apply IsS170.drewN | apply IsS170.drew | apply IsS170.set_1 | apply IsS170.set_2 | refine IsS170.far ?_ NB353_349.out _) | exact HI353.out)) (by (with_reducible repeat (first | apply Kd.R_alloc | apply Kd.R_drewN | apply Kd.R_drew)); exact HO356.out) zq39) hk (fun _ h => h.2)) (fun _ h => h.1)); have HO364 := zA (Kd.R_lower ho0 (below_size zq142)); replace HB := zA (hb); replace HI353 := zA (hi); clear hb hk hi ho0; have hnb12 := NB349_353.out; have hnc12 := NB353_349.out; have hcz13_0 : w11.cell? ⟨gb349, 0, none⟩ = some (.int .i64 0) := (blk_cell BK349.out 0).trans rfl; have hcz13_1 : w11.cell? ⟨gb349, 1, none⟩ = some (.int .i64 0) := (blk_cell BK349.out 1).trans rfl; have hcz13_2 : w11.cell? ⟨gb349, 2, none⟩ = some (.string (⟨#[]⟩ : ByteArray)) := (blk_cell BK349.out 2).trans rfl; have hcz13_3 : w11.cell? ⟨gb349, 3, none⟩ = some (.slice none 0 0) := (blk_cell BK349.out 3).trans rfl; have hfz13_0 := blk_frozen BK349.out 0; have hfz13_1 := blk_frozen BK349.out 1; have hfz13_2 := blk_frozen BK349.out 2; have hfz13_3 := blk_frozen BK349.out 3; obtain ⟨Ao14, co14, eo14⟩ := Kd.R_slice HO364.out; subst eo14))
 refine bodyPost_ret (results_tc rfl _ _ gb349 76 #[.int .i64 t359, .int .i64 t360, .string t361, .slice Ao14 t362.length co14] (0, 0) _ rfl (by (with_reducible repeat (first | refine blk_drewN ?_ _ | refine blk_drew ?_ | refine blk_alloc ?_ _)); refine blk_put (cs := #[.int .i64 t359, .int .i64 t360, .string t361, .slice none 0 0]) ?_ 3 _ rfl; (with_reducible repeat (first | refine blk_drewN ?_ _ | refine blk_drew ?_ | refine blk_alloc ?_ _)); refine blk_put (cs := #[.int .i64 t359, .int .i64 t360, .string (⟨#[]⟩ : ByteArray), .slice none 0 0]) ?_ 2 _ rfl; (with_reducible repeat (first | refine blk_drewN ?_ _ | refine blk_drew ?_ | refine blk_alloc ?_ _)); refine blk_put (cs := #[.int .i64 t359, .int .i64 0, .string (⟨#[]⟩ : ByteArray), .slice none 0 0]) ?_ 1 _ rfl; (with_reducible repeat (first | refine blk_drewN ?_ _ | refine blk_drew ?_ | refine blk_alloc ?_ _)); refine blk_put (cs := #[.int .i64 0, .int .i64 0, .string (⟨#[]⟩ : ByteArray), .slice none 0 0]) ?_ 0 _ rfl; (with_reducible repeat (first | refine blk_drewN ?_ _ | refine blk_drew ?_ | refine blk_alloc ?_ _)); exact BK349.out) Try.underlying76 rfl (by kernel_rfl)) rfl ?_
 exact ⟨_, _, zq2, (by (with_reducible repeat (first | apply Kd.R_alloc | apply Kd.R_drewN | apply Kd.R_drew)); exact Kd.R_mono (Kd.R_far (p := ⟨gb349, 3, none⟩) (Kd.R_far (p := ⟨gb349, 2, none⟩) (Kd.R_far (p := ⟨gb349, 1, none⟩) (Kd.R_far (p := ⟨gb349, 0, none⟩) (Kd.R_types HO356.out BK349.out zq39) (fun _ hk => hk.2) (.int .i64 t359)) (fun _ hk => hk.2) (.int .i64 t360)) (fun _ hk => hk.2) (.string t361)) (fun _ hk => hk.2) (.slice Ao14 t362.length co14)) (fun _ hk => trivial)), (by (with_reducible repeat (first | apply Kd.R_alloc | apply Kd.R_drewN | apply Kd.R_drew)); exact Kd.R_mono (Kd.R_far (p := ⟨gb349, 3, none⟩) (Kd.R_far (p := ⟨gb349, 2, none⟩) (Kd.R_far (p := ⟨gb349, 1, none⟩) (Kd.R_far (p := ⟨gb349, 0, none⟩) (Kd.R_types HO364.out BK349.out zq39) (fun _ hk => hk.2) (.int .i64 t359)) (fun _ hk => hk.2) (.int .i64 t360)) (fun _ hk => hk.2) (.string t361)) (fun _ hk => hk.2) (.slice Ao14 t362.length co14)) (fun _ hk => trivial)), zq142⟩

/-! ### spec_l1In: function 150 -/
def spec_l1In.f (a0 : Int) (a1 : Int) (a2 : Int) : Option (Bool) := if a0 ≥ a1 then (some (decide (a0 ≤ a2))) else (some false)
set_option maxHeartbeats 8000000 in
set_option maxRecDepth 100000 in
theorem spec_l1In.calls (a0 : Int) (a1 : Int) (a2 : Int) (r : Bool) (w : World) (h : spec_l1In.f a0 a1 a2 = some r) :
  Calls Try.prog 150 #[.int .i64 a0, .int .i64 a1, .int .i64 a2] w fun e w' => e = .returned (.bool r) ∧ Drawn0 w w' := by
 unfold spec_l1In.f at h
 have H := h
 clear h
 have HC4 := zA H
 clear H
 go_enter Try.func150, Try.ntmps150
 go_upto_region 0 with (fail)
 have H := HC4.out
 clear HC4
 have HC5 := zA H
 clear H
 go_upto_region 1 with (fail)
 have H := HC5.out
 clear HC5
 by_cases c6 : a0 ≥ a1
 ·rw [if_pos c6] at H
  have c6b0 : decide (a1 ≤ a0) = true := decide_eq_true c6
  clear c6
  obtain rfl := Option.some.inj H
  go_wp2
  go_ret
  exact ⟨zq10, zq38⟩
 ·rw [if_neg c6] at H
  have c6b0 : decide (a1 ≤ a0) = false := decide_eq_false c6
  clear c6
  obtain rfl := Option.some.inj H
  go_wp2
  go_ret
  exact ⟨zq10, zq38⟩

/-! ### spec_OidOk: function 175 -/
def spec_OidOk.l0 : Nat → List Int → Int → Option (Bool)
 | 0, _, _ => none
 | k + 1, x0, x3 => if x3 < (x0.length : Int) then (if 0 ≤ x3 then ((spec_l1In.f (rd x0 x3) 0 100000).bind fun t368 => (if t368 = true then (spec_OidOk.l0 k x0 (wrap64 (x3 + 1))) else (some false))) else (none)) else ((spec_l1In.f (x0.length : Int) 1 10).bind fun t369 => (some t369))
def spec_OidOk.f (k : Nat) (l0 : List Int) : Option (Bool) := spec_OidOk.l0 k l0 0
theorem spec_OidOk.mono_l : ∀ k, (∀ y0 y1, LeO (spec_OidOk.l0 k y0 y1) (spec_OidOk.l0 (k + 1) y0 y1))
 | 0 => fun _ _ r h => by simp [spec_OidOk.l0] at h
 | k + 1 => by
  have ih0 := spec_OidOk.mono_l k
  ·intro y0 y1
   unfold spec_OidOk.l0
   exact zR
theorem spec_OidOk.mono : ∀ a0 k, LeO (spec_OidOk.f k a0) (spec_OidOk.f (k + 1) a0) := by
 intro a0 k
 have ih0 := spec_OidOk.mono_l k
 unfold spec_OidOk.f
 exact zR
set_option maxHeartbeats 8000000 in
set_option maxRecDepth 100000 in
theorem spec_OidOk.calls (k : Nat) (A0 : Option Addr) (c0 : Nat) (l0 : List Int) (r : Bool) (w : World) (hr0 : Kd.C (Kd.int .i64) w A0 l0.length l0) (hc0 : l0.length ≤ c0) (h : spec_OidOk.f k l0 = some r) :
  Calls Try.prog 175 #[.slice A0 l0.length c0] w fun e w' => e = .returned (.bool r) ∧ Drawn0 w w' := by
 have HR0 := zA hr0
 have HC0 := zA hc0
 clear hr0 hc0
 unfold spec_OidOk.f at h
 have H := h
 clear h
 have HC2 := zA H
 clear H
 go_enter Try.func175, Try.ntmps175
 go_upto_region 0 with (fail)
 have H := HC2.out
 clear HC2
 have HC3 := zA H
 clear H
 go_upto_region 1 with (fail)
 have H := HC3.out
 clear HC3
 have H' := zA H
 clear H
 go_wp2
 go_loopg [3] k (fun kq v3 w' => ∃ (x3_1 : Int), v3 = .int .i64 x3_1 ∧ Aside0 (spec_OidOk.l0 kq l0 x3_1 = some r) ∧ Aside0 (kq ≤ k) ∧ Drawn0 w w')
 case atStart => exact ⟨(0), zq10, H', ⟨Nat.le_refl _⟩, zq38⟩
 case round =>
  clear H'
  try clear c1
  try clear p2
  obtain ⟨x3_1, rfl, HA, HK1, ⟨m1, rfl⟩⟩ := hrel
  cases gk with
  | zero => exact absurd HA.out (by simp [spec_OidOk.l0])
  | succ k1 =>
   have H := HA.out
   clear HA
   simp only [spec_OidOk.l0] at H
   have HC4 := zA H
   clear H
   go_upto_region 2 with (fail)
   have H := HC4.out
   clear HC4
   by_cases c5 : x3_1 < (l0.length : Int)
   ·rw [if_pos c5] at H
    have c5b0 : decide (x3_1 < (l0.length : Int)) = true := decide_eq_true c5
    clear c5
    have HC6 := zA H
    clear H
    go_upto_region 4 with (fail)
    have H := HC6.out
    clear HC6
    obtain ⟨c7, H⟩ := zN H
    have c7b0 : decide (0 ≤ x3_1) = true := decide_eq_true c7
    clear c7
    obtain ⟨t368, A8, H⟩ := zB H
    try dsimp only at H
    by_cases c9 : t368 = true
    ·subst c9
     rw [if_pos rfl] at H
     have HC10 := zA H
     clear H
     have p367 : 0 ≤ (x3_1 : Int) := of_decide_eq_true zq7
     have q367 : x3_1 < (l0.length : Int) := of_decide_eq_true zq7
     obtain ⟨ad367, e367, hx367_0⟩ := Kd.at_int HR0.out x3_1 p367 q367
     cases e367
     replace p367 := eq_true p367
     replace q367 := eq_true q367
     go_upto_region 3 with (first | ((with_reducible refine gate_callee (f := 150) rfl ?_); refine goesL_ (some 14) rfl rfl Try.func150 (by kernel_rfl) rfl #[.int .i64 (rd l0 x3_1), .int .i64 0, .int .i64 100000] rfl zq1 ?_; (with_reducible refine (spec_l1In.calls (rd l0 x3_1) 0 100000 true _ A8.out).mono ?_); rintro e w' ⟨rfl, ⟨nd, rfl⟩⟩; refine ⟨_, rfl, ?_⟩))
     (try simp only [Act.put, List.setIfInBounds_toArray, List.set_cons_zero, List.set_cons_succ])
     have H := HC10.out
     clear HC10
     have H' := zA H
     clear H
     go_wp2
     go_roundg k1
     case measure => have := HK1.out; omega
     case rel => exact ⟨(wrap64 (x3_1 + 1)), zq10, H', ⟨zq148⟩, zq38⟩
    ·replace c9 := Bool.eq_false_iff.mpr c9
     subst c9
     rw [if_neg zF] at H
     have HC11 := zA H
     clear H
     have p367 : 0 ≤ (x3_1 : Int) := of_decide_eq_true zq7
     have q367 : x3_1 < (l0.length : Int) := of_decide_eq_true zq7
     obtain ⟨ad367, e367, hx367_0⟩ := Kd.at_int HR0.out x3_1 p367 q367
     cases e367
     replace p367 := eq_true p367
     replace q367 := eq_true q367
     go_upto_region 5 with (first | ((with_reducible refine gate_callee (f := 150) rfl ?_); refine goesL_ (some 14) rfl rfl Try.func150 (by kernel_rfl) rfl #[.int .i64 (rd l0 x3_1), .int .i64 0, .int .i64 100000] rfl zq1 ?_; (with_reducible refine (spec_l1In.calls (rd l0 x3_1) 0 100000 false _ A8.out).mono ?_); rintro e w' ⟨rfl, ⟨nd, rfl⟩⟩; refine ⟨_, rfl, ?_⟩))
     (try simp only [Act.put, List.setIfInBounds_toArray, List.set_cons_zero, List.set_cons_succ])
     have H := HC11.out
     clear HC11
     obtain rfl := Option.some.inj H
     go_wp2
     go_ret
     exact ⟨zq10, zq38⟩
   ·rw [if_neg c5] at H
    have c5b0 : decide (x3_1 < (l0.length : Int)) = false := decide_eq_false c5
    clear c5
    have HC12 := zA H
    clear H
    go_upto_region 6 with (fail)
    have H := HC12.out
    clear HC12
    obtain ⟨t369, A13, H⟩ := zB H
    try dsimp only at H
    obtain rfl := Option.some.inj H
    go_wp2_with (first | ((with_reducible refine gate_callee (f := 150) rfl ?_); refine goesL_ (some 18) rfl rfl Try.func150 (by kernel_rfl) rfl #[.int .i64 (l0.length : Int), .int .i64 1, .int .i64 10] rfl zq1 ?_; (with_reducible refine (spec_l1In.calls (l0.length : Int) 1 10 t369 _ A13.out).mono ?_); rintro e w' ⟨rfl, ⟨nd, rfl⟩⟩; refine ⟨_, rfl, ?_⟩))
    go_ret
    exact ⟨zq10, zq38⟩

end Go.Proofs.Ytkcgghgkmgbphaa.PFnVals
