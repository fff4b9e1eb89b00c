-- WRITTEN BY a turned copy of the kit's printer (wip/patch_print.py), for this claim
import Derived.Test.YtkcgghgkmgbphaaPFnFramesx0
import Derived.Test.YtkcgghgkmgbphaaPFnFramesx1
import Derived.Test.YtkcgghgkmgbphaaPFnFramesx10
import Derived.Test.YtkcgghgkmgbphaaPFnFramesx11
namespace Go.Proofs.Ytkcgghgkmgbphaa.PFnFrames
open Go.RowKit Go.Proofs.YtkcgghgkmgbphaaW.PrintWords Go.Proofs.YtkcgghgkmgbphaaW.PrintLast Go.Proofs.YtkcgghgkmgbphaaW.PrintMore
attribute [local go_sem] max2_int min2_int max_two min_two max_three min_three max_four min_four   -- for this text's walks alone
set_option linter.unusedVariables false
set_option linter.unusedSimpArgs false

/-! ### spec_l1Bend: function 110 -/
def spec_l1Bend.f (s0_0 : List Int) (s0_1 : Int) (s0_2 : Int) (l1 : List Int) : Option (List Int × Int × Int) := if (l1.length : Int) = 0 then (some (l1, s0_1, s0_2)) else ((spec_l1Below.f s0_0 s0_1 s0_2 5).bind fun bt461 => (if bt461.1 = 0 then ((spec_l1Below.f s0_0 bt461.2.1 bt461.2.2 (l1.length : Int)).bind fun bt464 => ((spec_l1Int.f s0_0 bt464.2.1 bt464.2.2 (([0, 1, 2, 4, 5, 6, 48, 127, 128, 129, 160, 255] : List Int))).bind fun bt470 => (if 0 ≤ bt464.1 then (if bt464.1 < (l1.length : Int) then (some ((l1.set (bt464.1 : Int).toNat ((bt470.1) % 256)), bt470.2.1, bt470.2.2)) else (none)) else (none)))) else (if bt461.1 = 1 then (if l1.length < 140737488355328 then (some ((l1 ++ [3]), bt461.2.1, bt461.2.2)) else (none)) else (if bt461.1 = 2 then ((spec_l1Below.f s0_0 bt461.2.1 bt461.2.2 (l1.length : Int)).bind fun bt477 => (if 0 ≤ bt477.1 then (if bt477.1 ≤ (l1.length : Int) then (some ((l1.take (bt477.1 : Int).toNat), bt477.2.1, bt477.2.2)) else (none)) else (none))) else (some (l1, bt461.2.1, bt461.2.2))))))
set_option maxHeartbeats 8000000 in
set_option maxRecDepth 100000 in
theorem spec_l1Bend.calls (g : Nat) (s0_0 : List Int) (s0_1 : Int) (s0_2 : Int) (P1_ : Nat → Prop) (u9000_ : Value) (l1 : List Int) (r1 : List Int) (r2 : Int) (r3 : Int) (w0 w : World) (hI : IsS170 w0 w g s0_0 s0_1 s0_2) (hB : Below w0.heap.size w0 w) (ho1 : Kd.R (Kd.int .u8) 5 w w0.heap.size P1_ u9000_ l1) (h : spec_l1Bend.f s0_0 s0_1 s0_2 l1 = some (r1, r2, r3)) :
  Calls Try.prog 110 #[.pointer (some ⟨g, 0, none⟩), u9000_] w fun e w' => ∃ v0_ : Value, e = .returned (v0_) ∧ Kd.R (Kd.int .u8) 5 w' w0.heap.size (fun k_ => (P1_ k_ ∨ w.heap.size ≤ k_)) v0_ r1 ∧ IsS170 w0 w' g s0_0 r2 r3 ∧ Below w0.heap.size w0 w' ∧ Kept w w' (fun k_ => (P1_ k_) ∨ k_ = g) := by
 have HO1 := zA (show Kd.R (Kd.int .u8) 5 w w0.heap.size (fun k_ => (P1_ k_ ∨ w.heap.size ≤ k_)) u9000_ l1 from Kd.R_mono ho1 (fun k_ hk => (.inl hk)))
 have HI0 := zA hI
 have HL := zA hB.size
 clear hI
 have HK := zA (Kept.refl w (fun k_ => (P1_ k_) ∨ k_ = g))
 have HW0 := zA hB.size
 have HB := zA hB
 clear hB
 unfold spec_l1Bend.f at h
 have H := h
 clear h
 have HC3 := zA H
 clear H
 go_enter Try.func110, Try.ntmps110
 go_upto_region 0 with (fail)
 have H := HC3.out
 clear HC3
 have HC4 := zA H
 clear H
 go_upto_region 1 with (fail)
 have H := HC4.out
 clear HC4
 by_cases c5 : (l1.length : Int) = 0
 ·rw [if_pos c5] at H
  have c5b0 : ((l1.length : Int) == 0) = true := beq_iff_eq.mpr c5
  have c5b1 : ((l1.length : Int) != 0) = false := bne_eq_false_iff_eq.mpr c5
  clear c5
  have HC6 := zA H
  clear H
  obtain ⟨Ao7, co7, eo7⟩ := Kd.R_slice HO1.out
  subst eo7
  go_upto_region 2 with (fail)
  have H := HC6.out
  clear HC6
  simp only [Option.some.injEq, Prod.mk.injEq] at H
  obtain ⟨rfl, rfl, rfl⟩ := H
  go_wp2
  go_ret
  exact ⟨_, zq5, zq94, zq13, zq12, zq45⟩
 ·rw [if_neg c5] at H
  have c5b0 : ((l1.length : Int) == 0) = false := beq_eq_false_iff_ne.mpr c5
  have c5b1 : ((l1.length : Int) != 0) = true := bne_iff_ne.mpr c5
  have c5b2 : ¬ (l1 = []) := fun h_ => c5 (by rw [h_]; rfl)
  have HC8 := zA H
  clear H
  obtain ⟨Ao9, co9, eo9⟩ := Kd.R_slice HO1.out
  subst eo9
  go_upto_region 3 with (fail)
  have H := HC8.out
  clear HC8
  obtain ⟨⟨t461, t462, t463⟩, A10, H⟩ := zB H
  try dsimp only at H
  have HC11 := zA H
  clear H
  go_upto_region 4 with (first | ((with_reducible refine gate_callee (f := 131) rfl ?_); refine goesL_ (some 10) rfl rfl Try.func131 (by kernel_rfl) rfl #[.pointer (some ⟨g, 0, none⟩), .int .i64 5] rfl zq1 ?_; (with_reducible refine (spec_l1Below.calls g s0_0 s0_1 s0_2 5 t461 t462 t463 w0 _ ?side1 ?side2 A10.out).mono ?_); (case side1 => repeat (first | (with_reducible first | exact HI0.out | apply IsS170.alloc | apply IsS170.drewN | apply IsS170.drew | apply IsS170.set_1 | apply IsS170.set_2) | exact HI0.out)); (case side2 => repeat (first | (with_reducible first | exact HB.out | apply below_alloc | apply pw_below_drewN | apply below_drew1 | refine below_set ?_ (IsS170.ge HI0.out)) | exact HB.out)); rintro e w12 ⟨rfl, hi, hb, hk⟩; refine ⟨_, rfl, ?_⟩; replace HO1 := zA (Kd.R_mono (Kd.R_keep (IsS170.apart (show IsS170 w0 _ g s0_0 s0_1 s0_2 from by repeat (first | (with_reducible first | exact HI0.out | apply IsS170.alloc | apply IsS170.drewN | apply IsS170.drew | apply IsS170.set_1 | apply IsS170.set_2) | exact HI0.out)) zq94 zq40) hk (fun _ h => h.2)) (fun _ h => h.1)); replace HK := zA (Kept.of_keep (S := (fun k_ => (P1_ k_) ∨ k_ = g)) zq45 hk (.inl (.inr rfl))); replace HB := zA (hb); replace HI0 := zA (hi); clear hb hk hi))
  (try simp only [Act.put, List.setIfInBounds_toArray, List.set_cons_zero, List.set_cons_succ])
  have H := HC11.out
  clear HC11
  by_cases c13 : t461 = 0
  ·rw [if_pos c13] at H
   have c13b0 : (t461 == 0) = true := beq_iff_eq.mpr c13
   have c13b1 : (t461 != 0) = false := bne_eq_false_iff_eq.mpr c13
   clear c13
   have HC14 := zA H
   clear H
   go_upto_region 5 with (fail)
   have H := HC14.out
   clear HC14
   obtain ⟨⟨t464, t465, t466⟩, A15, H⟩ := zB H
   try dsimp only at H
   obtain ⟨y467, hy467⟩ : ∃ y_ : List Int, y_ = (([0, 1, 2, 4, 5, 6, 48, 127, 128, 129, 160, 255] : List Int)) := ⟨_, rfl⟩
   rw [← hy467] at H
   have Ny467 := zA hy467
   clear hy467
   obtain ⟨⟨t470, t471, t472⟩, A16, H⟩ := zB H
   try dsimp only at H
   obtain ⟨c17, H⟩ := zN H
   have c17b0 : decide (0 ≤ t464) = true := decide_eq_true c17
   clear c17
   obtain ⟨c18, H⟩ := zN H
   have c18b0 : decide (t464 < (l1.length : Int)) = true := decide_eq_true c18
   clear c18
   obtain ⟨y473, hy473⟩ : ∃ y_ : List Int, y_ = (l1.set (t464 : Int).toNat ((t470) % 256)) := ⟨_, rfl⟩
   rw [← hy473] at H
   have Ny473 := zA hy473
   clear hy473
   have HC20 := zA H
   clear H
   go_upto_region 10 with (first | ((with_reducible refine gate_callee (f := 131) rfl ?_); refine goesL_ (some 17) rfl rfl Try.func131 (by kernel_rfl) rfl #[.pointer (some ⟨g, 0, none⟩), .int .i64 (l1.length : Int)] rfl zq1 ?_; (with_reducible refine (spec_l1Below.calls g s0_0 t462 t463 (l1.length : Int) t464 t465 t466 w0 _ ?side1 ?side2 A15.out).mono ?_); (case side1 => repeat (first | (with_reducible first | exact HI0.out | apply IsS170.alloc | apply IsS170.drewN | apply IsS170.drew | apply IsS170.set_1 | apply IsS170.set_2) | exact HI0.out)); (case side2 => repeat (first | (with_reducible first | exact HB.out | apply below_alloc | apply pw_below_drewN | apply below_drew1 | refine below_set ?_ (IsS170.ge HI0.out)) | exact HB.out)); rintro e w21 ⟨rfl, hi, hb, hk⟩; refine ⟨_, rfl, ?_⟩; replace HO1 := zA (Kd.R_mono (Kd.R_keep (IsS170.apart (show IsS170 w0 _ g s0_0 t462 t463 from by repeat (first | (with_reducible first | exact HI0.out | apply IsS170.alloc | apply IsS170.drewN | apply IsS170.drew | apply IsS170.set_1 | apply IsS170.set_2) | exact HI0.out)) zq94 zq40) hk (fun _ h => h.2)) (fun _ h => h.1)); replace HK := zA (Kept.of_keep (S := (fun k_ => (P1_ k_) ∨ k_ = g)) zq45 hk (.inl (.inr rfl))); replace HB := zA (hb); replace HI0 := zA (hi); clear hb hk hi) | ((with_reducible refine gate_dst (N := 19) rfl ?_); refine Kd.R_lit (Kd.int .i64) _ 3 ?hg (N := 19) ?hd (xs := ([0, 1, 2, 4, 5, 6, 48, 127, 128, 129, 160, 255] : List Int)) (inner := [.int .i64 0, .int .i64 1, .int .i64 2, .int .i64 4, .int .i64 5, .int .i64 6, .int .i64 48, .int .i64 127, .int .i64 128, .int .i64 129, .int .i64 160, .int .i64 255]) (ok := fun _ => True) (okp := fun _ => True) ?hr ?hp (fun _ hk => hk) trivial (Below.refl _ _) (Nat.le_refl _) zq125 ?_; (case hd => rfl); (case hg => rfl); (case hr => first | (go_simp; done) | (go_simp; rfl)); (case hp => exact (Reps.one (show Kd.M (Kd.int .i64) _ _ _ 0 [.int .i64 0] from rfl) (Reps.one (show Kd.M (Kd.int .i64) _ _ _ 1 [.int .i64 1] from rfl) (Reps.one (show Kd.M (Kd.int .i64) _ _ _ 2 [.int .i64 2] from rfl) (Reps.one (show Kd.M (Kd.int .i64) _ _ _ 4 [.int .i64 4] from rfl) (Reps.one (show Kd.M (Kd.int .i64) _ _ _ 5 [.int .i64 5] from rfl) (Reps.one (show Kd.M (Kd.int .i64) _ _ _ 6 [.int .i64 6] from rfl) (Reps.one (show Kd.M (Kd.int .i64) _ _ _ 48 [.int .i64 48] from rfl) (Reps.one (show Kd.M (Kd.int .i64) _ _ _ 127 [.int .i64 127] from rfl) (Reps.one (show Kd.M (Kd.int .i64) _ _ _ 128 [.int .i64 128] from rfl) (Reps.one (show Kd.M (Kd.int .i64) _ _ _ 129 [.int .i64 129] from rfl) (Reps.one (show Kd.M (Kd.int .i64) _ _ _ 160 [.int .i64 160] from rfl) (Reps.one (show Kd.M (Kd.int .i64) _ _ _ 255 [.int .i64 255] from rfl) (Reps.none _ _)))))))))))))); intro v468 w22 ho23 hb hg_ hnew_; clear hg_ hnew_; (first | rw [← Ny467.out] at ho23 | (simp only [Int.reduceToNat] at ho23; rw [← Ny467.out] at ho23)); replace HO1 := zA (Kd.R_below zq94 hb); have HO469 := zA (Kd.R_lower (Kd.R_newM (M := fun k_ => (P1_ k_ ∨ w.heap.size ≤ k_)) ho23 zq173 (fun k_ h_ => .inr h_)) (below_size zq12)); replace HK := zA (Kept.below (S := (fun k_ => (P1_ k_) ∨ k_ = g)) zq45 hb); replace HB := zA (below_step zq12 hb); replace HI0 := zA (IsS170.below zq13 hb); clear hb ho23; obtain ⟨Ao24, co24, eo24⟩ := Kd.R_slice HO469.out; subst eo24) | ((with_reducible refine gate_callee (f := 140) rfl ?_); refine goesL_ (some 20) rfl rfl Try.func140 (by kernel_rfl) rfl #[.pointer (some ⟨g, 0, none⟩), .slice Ao24 y467.length co24] rfl zq1 ?_; (with_reducible refine (spec_l1Int.calls g s0_0 t465 t466 _ _ y467 t470 t471 t472 w0 _ ?side1 ?side2 ?side3 ?side4 ?side5 A16.out).mono ?_); (case side1 => repeat (first | (with_reducible first | exact HI0.out | apply IsS170.alloc | apply IsS170.drewN | apply IsS170.drew | apply IsS170.set_1 | apply IsS170.set_2) | exact HI0.out)); (case side2 => repeat (first | (with_reducible first | exact HB.out | apply below_alloc | apply pw_below_drewN | apply below_drew1 | refine below_set ?_ (IsS170.ge HI0.out)) | exact HB.out)); (case side3 => repeat (first | exact (Kd.R_reads' HO469.out).2.2 | (with_reducible refine Kd.C_alloc ?_ _) | (with_reducible refine Kd.C_drewN ?_ _) | (with_reducible refine Kd.C_drew ?_))); (case side4 => exact (Kd.R_reads' HO469.out).2.1); (case side5 => exact far_slice (IsS170.own_ne HI0.out HO469.out zq40)); rintro e w25 ⟨rfl, hi, hb, hk⟩; refine ⟨_, rfl, ?_⟩; replace HO1 := zA (Kd.R_mono (Kd.R_keep (IsS170.apart (show IsS170 w0 _ g s0_0 t465 t466 from by repeat (first | (with_reducible first | exact HI0.out | apply IsS170.alloc | apply IsS170.drewN | apply IsS170.drew | apply IsS170.set_1 | apply IsS170.set_2) | exact HI0.out)) zq94 zq40) hk (fun _ h => h.2)) (fun _ h => h.1)); replace HO469 := zA (Kd.R_mono (Kd.R_keep (IsS170.apart (show IsS170 w0 _ g s0_0 t465 t466 from by repeat (first | (with_reducible first | exact HI0.out | apply IsS170.alloc | apply IsS170.drewN | apply IsS170.drew | apply IsS170.set_1 | apply IsS170.set_2) | exact HI0.out)) zq199 zq40) hk (fun _ h => h.2)) (fun _ h => h.1)); replace HK := zA (Kept.of_keep (S := (fun k_ => (P1_ k_) ∨ k_ = g)) zq45 hk (.inl (.inr rfl))); replace HB := zA (hb); replace HI0 := zA (hi); clear hb hk hi; have p19 : 0 ≤ (t464 : Int) := of_decide_eq_true zq17; have q19 : (t464 : Int) < ((l1.length : Int) : Int) := of_decide_eq_true zq17; obtain ⟨go19, co19, eo19, gb19, gl19, cl19, HG19⟩ := Kd.R_form HO1.out zq177; (first | cases eo19 | (injection eo19 with ea_ en_ ec_; (first | subst ea_ | (injection ea_ with ea_; subst ea_)); subst ec_; clear en_)); have GB19 := zA gb19; have GG19 := zA HG19; clear gb19 gl19 HG19; have HMgo19 := zA (show (P1_ go19 ∨ w.heap.size ≤ go19) from (HO1.out.1 _ rfl)); obtain ⟨hx19_0, hf19_0⟩ := Kd.R_celln 0 HO1.out (t464 : Int) p19 q19; replace p19 := eq_true p19; replace q19 := eq_true q19; obtain ⟨hy26_, hz26_⟩ := Kd.R_celln 0 HO1.out (t464 : Int) (of_decide_eq_true zq17) (of_decide_eq_true zq17); have HP26 := Kd.R_putg HO1.out (t464 : Int) ((t470) % 256)) | ((with_reducible refine gate_store (t := 5) (p := 22) rfl ?_); refine store_event (t := 5) (p := 22) (v := ?vo_w27) (w1 := (w25.setCell ⟨go19, (t464 : Int).toNat, none⟩ (.int .u8 ((t470) % 256)))) ?hg ?ho ?hn ?hr ?_; (case ho => rfl); (case hg => rfl); (case hn => rfl); (case hr => first | (go_simp; done) | (go_simp; rfl)); intro w27 hw; have hg : w25.grownBy w27 (some go19) := (by rw [hw]; exact HP26.2); have hp_ : Kd.R (Kd.int .u8) 5 w27 w0.heap.size (fun k_ => (P1_ k_ ∨ w.heap.size ≤ k_)) (.slice (some ⟨go19, 0, none⟩) l1.length co9) y473 := (by rw [hw, Ny473.out]; exact HP26.1); clear HP26; replace HI0 := zA (IsS170.grown zq13 hg (IsS170.own_ne HI0.out HO1.out zq40)); replace HO469 := zA (Kd.R_over' (v := (.slice (some ⟨go19, 0, none⟩) l1.length co9)) zq199 (Kd.R_typed HO1.out) zq40 hg); replace HB := zA ((by rw [hw]; exact below_set (HB.out) GB19.out : Below w0.heap.size w0 w27)); replace HK := zA (Kept.of_grown (S := (fun k_ => (P1_ k_) ∨ k_ = g)) hg zq45 (fun k_ e_ => Or.imp_left Or.inl ((HO1.out.1 k_ e_)))); replace HO1 := zA (hp_); clear hg hw hp_))
   (try simp only [Act.put, List.setIfInBounds_toArray, List.set_cons_zero, List.set_cons_succ])
   have H := HC20.out
   clear HC20
   simp only [Option.some.injEq, Prod.mk.injEq] at H
   obtain ⟨rfl, rfl, rfl⟩ := H
   go_wp2
   go_ret
   exact ⟨_, zq5, zq94, zq13, zq12, zq45⟩
  ·rw [if_neg c13] at H
   have c13b0 : (t461 == 0) = false := beq_eq_false_iff_ne.mpr c13
   have c13b1 : (t461 != 0) = true := bne_iff_ne.mpr c13
   have HC28 := zA H
   clear H
   go_upto_region 6 with (fail)
   have H := HC28.out
   clear HC28
   by_cases c29 : t461 = 1
   ·rw [if_pos c29] at H
    have c29b0 : (t461 == 1) = true := beq_iff_eq.mpr c29
    have c29b1 : (t461 != 1) = false := bne_eq_false_iff_eq.mpr c29
    clear c29
    have HC30 := zA H
    clear H
    go_upto_region 7 with (fail)
    have H := HC30.out
    clear HC30
    obtain ⟨c31, H⟩ := zN H
    have LMc31 := zA c31
    clear c31
    obtain ⟨y474, hy474⟩ : ∃ y_ : List Int, y_ = (l1 ++ [3]) := ⟨_, rfl⟩
    rw [← hy474] at H
    have Ny474 := zA hy474
    clear hy474
    have HC32 := zA H
    clear H
    go_upto_region 10 with (first | ((with_reducible refine gate_builtin (b := .append) (xs := #[.tmp 25, .tmp 26]) rfl ?_); at_builtin; refine Kd.R_append (Kd.int .u8) (w0 := w0) w0.heap.size rfl (.tmp 25) (.tmp 26) 22 5 (.int .u8 0) 1 rfl Try.underlying22 info5 rfl zq40 zq177 (.slice Ao9 l1.length co9) l1 3 [.int .u8 3] (fun k_ => (P1_ k_ ∨ w.heap.size ≤ k_)) (fun _ => False) rfl rfl ?aP (fun _ hk => hk.elim) ?aF ?aO ?aB ?aS ?aL ?_; (case aP => exact rfl); (case aB => exact zq12); (case aF => exact (fun k_ hk => (.inr (Nat.le_trans zq173 hk)))); (case aO => exact zq94); (case aS => exact (below_size zq12)); (case aL => have := LMc31.out; omega); intro v475 w33 ho hb hg hat; rw [← Ny474.out] at ho; replace HI0 := zA (IsS170.grown zq13 hg (IsS170.own_ne HI0.out HO1.out zq40)); replace HB := zA (hb); replace HK := zA (Kept.of_grown (S := (fun k_ => (P1_ k_) ∨ k_ = g)) hg zq45 (fun k_ e_ => Or.imp_left Or.inl ((HO1.out.1 k_ e_)))); have HO476 := zA (ho); clear HO1; clear ho hb hg hat))
    (try simp only [Act.put, List.setIfInBounds_toArray, List.set_cons_zero, List.set_cons_succ])
    have H := HC32.out
    clear HC32
    simp only [Option.some.injEq, Prod.mk.injEq] at H
    obtain ⟨rfl, rfl, rfl⟩ := H
    go_wp2
    go_ret
    exact ⟨_, zq5, (by (with_reducible repeat (first | apply Kd.R_alloc | apply Kd.R_drewN | apply Kd.R_drew)); exact HO476.out), zq13, zq12, zq45⟩
   ·rw [if_neg c29] at H
    have c29b0 : (t461 == 1) = false := beq_eq_false_iff_ne.mpr c29
    have c29b1 : (t461 != 1) = true := bne_iff_ne.mpr c29
    have HC34 := zA H
    clear H
    go_upto_region 8 with (fail)
    have H := HC34.out
    clear HC34
    by_cases c35 : t461 = 2
    ·rw [if_pos c35] at H
     have c35b0 : (t461 == 2) = true := beq_iff_eq.mpr c35
     have c35b1 : (t461 != 2) = false := bne_eq_false_iff_eq.mpr c35
     clear c35
     have HC36 := zA H
     clear H
     go_upto_region 9 with (fail)
     have H := HC36.out
     clear HC36
     obtain ⟨⟨t477, t478, t479⟩, A37, H⟩ := zB H
     try dsimp only at H
     obtain ⟨c38, H⟩ := zN H
     have c38b0 := eq_true c38
     have c38b1 : decide (0 ≤ t477) = true := decide_eq_true c38
     clear c38
     obtain ⟨c39, H⟩ := zN H
     have c39b0 := eq_true c39
     have c39b1 : decide (t477 ≤ (l1.length : Int)) = true := decide_eq_true c39
     clear c39
     obtain ⟨y480, hy480⟩ : ∃ y_ : List Int, y_ = (l1.take (t477 : Int).toNat) := ⟨_, rfl⟩
     rw [← hy480] at H
     have Ny480 := zA hy480
     clear hy480
     have HC40 := zA H
     clear H
     go_upto_region 10 with (first | ((with_reducible refine gate_callee (f := 131) rfl ?_); refine goesL_ (some 34) rfl rfl Try.func131 (by kernel_rfl) rfl #[.pointer (some ⟨g, 0, none⟩), .int .i64 (l1.length : Int)] rfl zq1 ?_; (with_reducible refine (spec_l1Below.calls g s0_0 t462 t463 (l1.length : Int) t477 t478 t479 w0 _ ?side1 ?side2 A37.out).mono ?_); (case side1 => repeat (first | (with_reducible first | exact HI0.out | apply IsS170.alloc | apply IsS170.drewN | apply IsS170.drew | apply IsS170.set_1 | apply IsS170.set_2) | exact HI0.out)); (case side2 => repeat (first | (with_reducible first | exact HB.out | apply below_alloc | apply pw_below_drewN | apply below_drew1 | refine below_set ?_ (IsS170.ge HI0.out)) | exact HB.out)); rintro e w41 ⟨rfl, hi, hb, hk⟩; refine ⟨_, rfl, ?_⟩; replace HO1 := zA (Kd.R_mono (Kd.R_keep (IsS170.apart (show IsS170 w0 _ g s0_0 t462 t463 from by repeat (first | (with_reducible first | exact HI0.out | apply IsS170.alloc | apply IsS170.drewN | apply IsS170.drew | apply IsS170.set_1 | apply IsS170.set_2) | exact HI0.out)) zq94 zq40) hk (fun _ h => h.2)) (fun _ h => h.1)); replace HK := zA (Kept.of_keep (S := (fun k_ => (P1_ k_) ∨ k_ = g)) zq45 hk (.inl (.inr rfl))); replace HB := zA (hb); replace HI0 := zA (hi); clear hb hk hi; have q42 : (t477 : Int) ≤ ((l1.length : Int) : Int) := of_decide_eq_true zq17; obtain ⟨i042, hi042, _, hsz42, _⟩ := info_parts info5; have hcut42 := cut_to (P := Try.prog) 22 5 .i64 Try.underlying22 hi042 Ao9 l1.length co9 t477 (of_decide_eq_true zq17) q42 (Kd.R_reads' HO1.out).2.1; have hr42 := Kd.R_take (m := (t477 : Int).toNat) HO1.out zq177; have hy42 : y480.length = (t477 : Int).toNat := (by rw [Ny480.out, List.length_take]; omega); rw [← Ny480.out] at hr42; rw [← hy42] at hr42 hcut42; clear hy42 hi042 hsz42 HO1; have HO482 := zA hr42; clear hr42; replace q42 := eq_true q42))
     (try simp only [Act.put, List.setIfInBounds_toArray, List.set_cons_zero, List.set_cons_succ])
     have H := HC40.out
     clear HC40
     simp only [Option.some.injEq, Prod.mk.injEq] at H
     obtain ⟨rfl, rfl, rfl⟩ := H
     go_wp2
     go_ret
     exact ⟨_, zq5, (by (with_reducible repeat (first | apply Kd.R_alloc | apply Kd.R_drewN | apply Kd.R_drew)); exact HO482.out), zq13, zq12, zq45⟩
    ·rw [if_neg c35] at H
     have c35b0 : (t461 == 2) = false := beq_eq_false_iff_ne.mpr c35
     have c35b1 : (t461 != 2) = true := bne_iff_ne.mpr c35
     have HC43 := zA H
     clear H
     go_upto_region 10 with (fail)
     have H := HC43.out
     clear HC43
     simp only [Option.some.injEq, Prod.mk.injEq] at H
     obtain ⟨rfl, rfl, rfl⟩ := H
     go_wp2
     go_ret
     exact ⟨_, zq5, zq94, zq13, zq12, zq45⟩

/-! ### spec_PutTlv: function 126 -/
def spec_PutTlv.j0 : Nat → Int → List Int → List Int → Bool → Option (List Int)
 | 0, _, _, _, _ => none
 | k + 1, x1, x2, x7, x18 => if x18 = true then (some x7) else (if x7.length < 140737488355328 then ((some (x7 ++ [(x1) % 256] : List Int)).bind fun y490 => (if (x2.length : Int) > 127 then (if y490.length < 140737488355328 then ((some (y490 ++ [129] : List Int)).bind fun y493 => (if y493.length < 140737488355328 then ((some (y493 ++ [((x2.length : Int)) % 256] : List Int)).bind fun y496 => (if y496.length + x2.length < 140737488355328 then (some (y496 ++ x2)) else (none))) else (none))) else (none)) else (if y490.length < 140737488355328 then ((some (y490 ++ [((x2.length : Int)) % 256] : List Int)).bind fun y502 => (if y502.length + x2.length < 140737488355328 then (some (y502 ++ x2)) else (none))) else (none)))) else (none))
def spec_PutTlv.f (k : Nat) (l0 : List Int) (a1 : Int) (l2 : List Int) : Option (List Int) := (some (([] : List Int) : List Int)).bind fun y483 => (if y483.length + l0.length < 140737488355328 then ((some (y483 ++ l0 : List Int)).bind fun y486 => ((spec_l1In.f a1 0 255).bind fun t489 => (if t489 = true then (spec_PutTlv.j0 k a1 l2 y486 (decide ((l2.length : Int) > 250))) else (spec_PutTlv.j0 k a1 l2 y486 true)))) else (none))
theorem spec_PutTlv.mono_l : ∀ k, (∀ y0 y1 y2 y3, LeO (spec_PutTlv.j0 k y0 y1 y2 y3) (spec_PutTlv.j0 (k + 1) y0 y1 y2 y3))
 | 0 => fun _ _ _ _ r h => by simp [spec_PutTlv.j0] at h
 | k + 1 => by
  have ih0 := spec_PutTlv.mono_l k
  ·intro y0 y1 y2 y3
   unfold spec_PutTlv.j0
   exact zR
theorem spec_PutTlv.mono : ∀ a0 a1 a2 k, LeO (spec_PutTlv.f k a0 a1 a2) (spec_PutTlv.f (k + 1) a0 a1 a2) := by
 intro a0 a1 a2 k
 have ih0 := spec_PutTlv.mono_l k
 unfold spec_PutTlv.f
 exact zR
set_option maxHeartbeats 8000000 in
set_option maxRecDepth 100000 in
theorem spec_PutTlv.calls (k : Nat) (A0 : Option Addr) (c0 : Nat) (l0 : List Int) (a1 : Int) (A2 : Option Addr) (c2 : Nat) (l2 : List Int) (r : List Int) (w : World) (hr0 : Kd.C (Kd.int .u8) w A0 l0.length l0) (hc0 : l0.length ≤ c0) (hr2 : Kd.C (Kd.int .u8) w A2 l2.length l2) (hc2 : l2.length ≤ c2) (h : spec_PutTlv.f k l0 a1 l2 = some r) :
  Calls Try.prog 126 #[.slice A0 l0.length c0, .int .i64 a1, .slice A2 l2.length c2] w fun e w' => ∃ v0_ : Value, e = .returned (v0_) ∧ Kd.R (Kd.int .u8) 5 w' w.heap.size (fun _ => True) v0_ r ∧ Below w.heap.size w w' := by
 have HR0 := zA hr0
 have HC0 := zA hc0
 clear hr0 hc0
 have HR2 := zA hr2
 have HC2 := zA hc2
 clear hr2 hc2
 have HB := zA (Below.refl w.heap.size w)
 unfold spec_PutTlv.f at h
 have H := h
 clear h
 have HC4 := zA H
 clear H
 go_enter Try.func126, Try.ntmps126
 go_upto_region 0 with (fail)
 have H := HC4.out
 clear HC4
 have HC5 := zA H
 clear H
 go_upto_region 1 with (fail)
 have H := HC5.out
 clear HC5
 obtain ⟨y483, Ny483, H⟩ := zS (([] : List Int)) H
 obtain ⟨c6, H⟩ := zN H
 have LMc6 := zA c6
 clear c6
 obtain ⟨y486, Ny486, H⟩ := zS (y483 ++ l0) H
 have HC7 := zA H
 clear H
 go_upto_region 2 with (first | ((with_reducible refine gate_dst (N := 8) rfl ?_); (try (refine gate_guard zq110 ?_; dsimp only)); refine Kd.R_lit (Kd.int .u8) _ 5 ?hg (N := 8) ?hd (xs := ([] : List Int)) (inner := []) (ok := fun _ => True) (okp := fun _ => True) ?hr ?hp (fun _ hk => hk) trivial (Below.refl _ _) (Nat.le_refl _) zq125 ?_; (case hd => rfl); (case hg => rfl); (case hr => first | (go_simp; done) | (go_simp; rfl)); (case hp => exact (Reps.none _ _)); intro v484 w8 ho9 hb hg_ hnew_; clear hg_ hnew_; (first | rw [← Ny483.out] at ho9 | (simp only [Int.reduceToNat] at ho9; rw [← Ny483.out] at ho9)); have HO485 := zA (Kd.R_lower ho9 (below_size zq0)); replace HB := zA (below_step zq0 hb); clear hb ho9) | ((with_reducible refine gate_builtin (b := .append) (xs := #[.tmp 8, .tmp 9]) rfl ?_); (try (refine gate_guard zq110 ?_; dsimp only)); at_builtin; refine Kd.R_append_rows (Kd.int .u8) (w0 := w) w.heap.size rfl (.tmp 8) (.tmp 9) 22 5 (.int .u8 0) 1 rfl Try.underlying22 info5 rfl zq40 zq177 v484 y483 l0 _ _ _ (fun _ => True) (fun _ => False) rfl rfl ?aO ?aR (fun _ _ h => h) (fun _ h => h.elim) ?aF ?aB ?aS ?aL ?_; (case aR => repeat (first | exact (Kd.C_below HR0.out HB.out) | (with_reducible refine Kd.C_alloc ?_ _) | (with_reducible refine Kd.C_drewN ?_ _) | (with_reducible refine Kd.C_drew ?_))); (case aB => exact zq0); (case aF => exact (fun _ _ => trivial)); (case aO => exact (by (with_reducible repeat (first | apply Kd.R_alloc | apply Kd.R_drewN | apply Kd.R_drew)); exact HO485.out)); (case aS => exact (below_size zq0)); (case aL => have := LMc6.out; omega); intro v487 w10 ho hb hg hat; rw [← Ny486.out] at ho; replace HB := zA (hb); have HO488 := zA (ho); clear HO485; clear ho hb hg hat))
 (try simp only [Act.put, List.setIfInBounds_toArray, List.set_cons_zero, List.set_cons_succ])
 have H := HC7.out
 clear HC7
 have HC11 := zA H
 clear H
 go_upto_region 2 with (fail)
 go_cut [18] (fun v18 wc => ∃ (kq : Nat) (x18_10 : Bool), v18 = .bool x18_10 ∧ Aside0 (spec_PutTlv.j0 kq a1 l2 y486 x18_10 = some r) ∧ Aside0 (kq ≤ k) ∧ Aside0 (Kd.R (Kd.int .u8) 5 wc w.heap.size (fun _ => True) v487 y486) ∧ Aside0 (Below w.heap.size w wc))
 case first =>
  have H := HC11.out
  clear HC11
  obtain ⟨t489, A12, H⟩ := zB H
  try dsimp only at H
  by_cases c13 : t489 = true
  ·subst c13
   rw [if_pos rfl] at H
   have H' := zA H
   clear H
   go_wp2_with (first | ((with_reducible refine gate_callee (f := 150) rfl ?_); refine goesL_ (some 12) rfl rfl Try.func150 (by kernel_rfl) rfl #[.int .i64 a1, .int .i64 0, .int .i64 255] rfl zq1 ?_; (with_reducible refine (spec_l1In.calls a1 0 255 true _ A12.out).mono ?_); rintro e w' ⟨rfl, ⟨nd, rfl⟩⟩; refine ⟨_, rfl, ?_⟩))
   go_meet
   case rel => exact ⟨_, (decide ((l2.length : Int) > 250)), zq25, H', ⟨zq97⟩, ⟨zq200⟩, ⟨zq0⟩⟩
  ·replace c13 := Bool.eq_false_iff.mpr c13
   subst c13
   rw [if_neg zF] at H
   have H' := zA H
   clear H
   go_wp2_with (first | ((with_reducible refine gate_callee (f := 150) rfl ?_); refine goesL_ (some 12) rfl rfl Try.func150 (by kernel_rfl) rfl #[.int .i64 a1, .int .i64 0, .int .i64 255] rfl zq1 ?_; (with_reducible refine (spec_l1In.calls a1 0 255 false _ A12.out).mono ?_); rintro e w' ⟨rfl, ⟨nd, rfl⟩⟩; refine ⟨_, rfl, ?_⟩))
   go_meet
   case rel => exact ⟨_, (true), zq25, H', ⟨zq97⟩, ⟨zq200⟩, ⟨zq0⟩⟩
 case rest =>
  clear HC11
  try clear c1
  try clear c2
  try clear p2
  try clear c6
  try clear c12
  try clear c13
  obtain ⟨kq, x18_10, rfl, HA, HJ10, HO_7, HB⟩ := hcut
  cases kq with
  | zero => exact absurd HA.out (by simp [spec_PutTlv.j0])
  | succ kj10 =>
   have H := HA.out
   clear HA
   simp only [spec_PutTlv.j0] at H
   by_cases c14 : x18_10 = true
   ·subst c14
    rw [if_pos rfl] at H
    have HC15 := zA H
    clear H
    go_upto_region 3 with (fail)
    have H := HC15.out
    clear HC15
    obtain rfl := Option.some.inj H
    go_wp2
    go_ret
    exact ⟨_, zq5, zq205, zq0⟩
   ·replace c14 := Bool.eq_false_iff.mpr c14
    subst c14
    rw [if_neg zF] at H
    have HC16 := zA H
    clear H
    go_upto_region 4 with (fail)
    have H := HC16.out
    clear HC16
    obtain ⟨c17, H⟩ := zN H
    have LMc17 := zA c17
    clear c17
    obtain ⟨y490, Ny490, H⟩ := zS (y486 ++ [(a1) % 256]) H
    have HC18 := zA H
    clear H
    go_upto_region 5 with (first | ((with_reducible refine gate_builtin (b := .append) (xs := #[.tmp 20, .tmp 23]) rfl ?_); (try (refine gate_guard zq110 ?_; dsimp only)); at_builtin; refine Kd.R_append (Kd.int .u8) (w0 := w) w.heap.size rfl (.tmp 20) (.tmp 23) 22 5 (.int .u8 0) 1 rfl Try.underlying22 info5 rfl zq40 zq177 v487 y486 ((a1) % 256) [.int .u8 ((a1) % 256)] (fun _ => True) (fun _ => False) rfl rfl ?aP (fun _ hk => hk.elim) ?aF ?aO ?aB ?aS ?aL ?_; (case aP => exact rfl); (case aB => exact zq0); (case aF => exact (fun _ _ => trivial)); (case aO => exact zq205); (case aS => exact (below_size zq0)); (case aL => have := LMc17.out; omega); intro v491 w19 ho hb hg hat; rw [← Ny490.out] at ho; replace HB := zA (hb); have HO492 := zA (ho); clear HO_7; clear ho hb hg hat))
    (try simp only [Act.put, List.setIfInBounds_toArray, List.set_cons_zero, List.set_cons_succ])
    have H := HC18.out
    clear HC18
    by_cases c20 : (l2.length : Int) > 127
    ·rw [if_pos c20] at H
     have c20b0 : decide (127 < (l2.length : Int)) = true := decide_eq_true c20
     have c20b1 : decide (127 < l2.length) = true := decide_eq_true zq177
     clear c20
     have HC21 := zA H
     clear H
     go_upto_region 6 with (fail)
     have H := HC21.out
     clear HC21
     obtain ⟨c22, H⟩ := zN H
     have LMc22 := zA c22
     clear c22
     obtain ⟨y493, Ny493, H⟩ := zS (y490 ++ [129]) H
     have HC23 := zA H
     clear H
     go_upto_region 7 with (first | ((with_reducible refine gate_builtin (b := .append) (xs := #[.tmp 28, .tmp 29]) rfl ?_); (try (refine gate_guard zq110 ?_; dsimp only)); at_builtin; refine Kd.R_append (Kd.int .u8) (w0 := w) w.heap.size rfl (.tmp 28) (.tmp 29) 22 5 (.int .u8 0) 1 rfl Try.underlying22 info5 rfl zq40 zq177 v491 y490 129 [.int .u8 129] (fun _ => True) (fun _ => False) rfl rfl ?aP (fun _ hk => hk.elim) ?aF ?aO ?aB ?aS ?aL ?_; (case aP => exact rfl); (case aB => exact zq0); (case aF => exact (fun _ _ => trivial)); (case aO => exact zq201); (case aS => exact (below_size zq0)); (case aL => have := LMc22.out; omega); intro v494 w24 ho hb hg hat; rw [← Ny493.out] at ho; replace HB := zA (hb); have HO495 := zA (ho); clear HO492; clear ho hb hg hat))
     (try simp only [Act.put, List.setIfInBounds_toArray, List.set_cons_zero, List.set_cons_succ])
     have H := HC23.out
     clear HC23
     obtain ⟨c25, H⟩ := zN H
     have LMc25 := zA c25
     clear c25
     obtain ⟨y496, Ny496, H⟩ := zS (y493 ++ [((l2.length : Int)) % 256]) H
     obtain ⟨c26, H⟩ := zN H
     have LMc26 := zA c26
     clear c26
     obtain ⟨y499, hy499⟩ : ∃ y_ : List Int, y_ = (y496 ++ l2) := ⟨_, rfl⟩
     rw [← hy499] at H
     have Ny499 := zA hy499
     clear hy499
     obtain rfl := Option.some.inj H
     go_wp2_with (first | ((with_reducible refine gate_builtin (b := .append) (xs := #[.tmp 31, .tmp 35]) rfl ?_); (try (refine gate_guard zq110 ?_; dsimp only)); at_builtin; refine Kd.R_append (Kd.int .u8) (w0 := w) w.heap.size rfl (.tmp 31) (.tmp 35) 22 5 (.int .u8 0) 1 rfl Try.underlying22 info5 rfl zq40 zq177 v494 y493 (((l2.length : Int)) % 256) [.int .u8 (((l2.length : Int)) % 256)] (fun _ => True) (fun _ => False) rfl rfl ?aP (fun _ hk => hk.elim) ?aF ?aO ?aB ?aS ?aL ?_; (case aP => exact rfl); (case aB => exact zq0); (case aF => exact (fun _ _ => trivial)); (case aO => exact (by (with_reducible repeat (first | apply Kd.R_alloc | apply Kd.R_drewN | apply Kd.R_drew)); exact HO495.out)); (case aS => exact (below_size zq0)); (case aL => have := LMc25.out; omega); intro v497 w27 ho hb hg hat; rw [← Ny496.out] at ho; replace HB := zA (hb); have HO498 := zA (ho); clear HO495; clear ho hb hg hat) | ((with_reducible refine gate_builtin (b := .append) (xs := #[.tmp 36, .tmp 37]) rfl ?_); (try (refine gate_guard zq110 ?_; dsimp only)); at_builtin; refine Kd.R_append_rows (Kd.int .u8) (w0 := w) w.heap.size rfl (.tmp 36) (.tmp 37) 22 5 (.int .u8 0) 1 rfl Try.underlying22 info5 rfl zq40 zq177 v497 y496 l2 _ _ _ (fun _ => True) (fun _ => False) rfl rfl ?aO ?aR (fun _ _ h => h) (fun _ h => h.elim) ?aF ?aB ?aS ?aL ?_; (case aR => repeat (first | exact (Kd.C_below HR2.out HB.out) | (with_reducible refine Kd.C_alloc ?_ _) | (with_reducible refine Kd.C_drewN ?_ _) | (with_reducible refine Kd.C_drew ?_))); (case aB => exact zq0); (case aF => exact (fun _ _ => trivial)); (case aO => exact (by (with_reducible repeat (first | apply Kd.R_alloc | apply Kd.R_drewN | apply Kd.R_drew)); exact HO498.out)); (case aS => exact (below_size zq0)); (case aL => have := LMc26.out; omega); intro v500 w28 ho hb hg hat; rw [← Ny499.out] at ho; replace HB := zA (hb); have HO501 := zA (ho); clear HO498; clear ho hb hg hat))
     go_ret
     exact ⟨_, zq5, (by (with_reducible repeat (first | apply Kd.R_alloc | apply Kd.R_drewN | apply Kd.R_drew)); exact HO501.out), zq0⟩
    ·rw [if_neg c20] at H
     have c20b0 : decide (127 < (l2.length : Int)) = false := decide_eq_false c20
     have c20b1 : decide (127 < l2.length) = false := decide_eq_false zq177
     clear c20
     have HC29 := zA H
     clear H
     go_upto_region 7 with (fail)
     have H := HC29.out
     clear HC29
     obtain ⟨c30, H⟩ := zN H
     have LMc30 := zA c30
     clear c30
     obtain ⟨y502, Ny502, H⟩ := zS (y490 ++ [((l2.length : Int)) % 256]) H
     obtain ⟨c31, H⟩ := zN H
     have LMc31 := zA c31
     clear c31
     obtain ⟨y505, hy505⟩ : ∃ y_ : List Int, y_ = (y502 ++ l2) := ⟨_, rfl⟩
     rw [← hy505] at H
     have Ny505 := zA hy505
     clear hy505
     obtain rfl := Option.some.inj H
     go_wp2_with (first | ((with_reducible refine gate_builtin (b := .append) (xs := #[.tmp 31, .tmp 35]) rfl ?_); (try (refine gate_guard zq110 ?_; dsimp only)); at_builtin; refine Kd.R_append (Kd.int .u8) (w0 := w) w.heap.size rfl (.tmp 31) (.tmp 35) 22 5 (.int .u8 0) 1 rfl Try.underlying22 info5 rfl zq40 zq177 v491 y490 (((l2.length : Int)) % 256) [.int .u8 (((l2.length : Int)) % 256)] (fun _ => True) (fun _ => False) rfl rfl ?aP (fun _ hk => hk.elim) ?aF ?aO ?aB ?aS ?aL ?_; (case aP => exact rfl); (case aB => exact zq0); (case aF => exact (fun _ _ => trivial)); (case aO => exact zq201); (case aS => exact (below_size zq0)); (case aL => have := LMc30.out; omega); intro v503 w32 ho hb hg hat; rw [← Ny502.out] at ho; replace HB := zA (hb); have HO504 := zA (ho); clear HO492; clear ho hb hg hat) | ((with_reducible refine gate_builtin (b := .append) (xs := #[.tmp 36, .tmp 37]) rfl ?_); (try (refine gate_guard zq110 ?_; dsimp only)); at_builtin; refine Kd.R_append_rows (Kd.int .u8) (w0 := w) w.heap.size rfl (.tmp 36) (.tmp 37) 22 5 (.int .u8 0) 1 rfl Try.underlying22 info5 rfl zq40 zq177 v503 y502 l2 _ _ _ (fun _ => True) (fun _ => False) rfl rfl ?aO ?aR (fun _ _ h => h) (fun _ h => h.elim) ?aF ?aB ?aS ?aL ?_; (case aR => repeat (first | exact (Kd.C_below HR2.out HB.out) | (with_reducible refine Kd.C_alloc ?_ _) | (with_reducible refine Kd.C_drewN ?_ _) | (with_reducible refine Kd.C_drew ?_))); (case aB => exact zq0); (case aF => exact (fun _ _ => trivial)); (case aO => exact (by (with_reducible repeat (first | apply Kd.R_alloc | apply Kd.R_drewN | apply Kd.R_drew)); exact HO504.out)); (case aS => exact (below_size zq0)); (case aL => have := LMc31.out; omega); intro v506 w33 ho hb hg hat; rw [← Ny505.out] at ho; replace HB := zA (hb); have HO507 := zA (ho); clear HO504; clear ho hb hg hat))
     go_ret
     exact ⟨_, zq5, (by (with_reducible repeat (first | apply Kd.R_alloc | apply Kd.R_drewN | apply Kd.R_drew)); exact HO507.out), zq0⟩

end Go.Proofs.Ytkcgghgkmgbphaa.PFnFrames
