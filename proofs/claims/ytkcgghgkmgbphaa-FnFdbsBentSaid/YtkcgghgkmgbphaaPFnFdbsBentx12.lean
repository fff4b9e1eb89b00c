-- WRITTEN BY a turned copy of the kit's printer (wip/patch_print.py), for this claim
import Derived.Test.YtkcgghgkmgbphaaPFnFdbsBentx0
import Derived.Test.YtkcgghgkmgbphaaPFnFdbsBentx2
import Derived.Test.YtkcgghgkmgbphaaPFnFdbsBentx3
import Derived.Test.YtkcgghgkmgbphaaPFnFdbsBentx4
import Derived.Test.YtkcgghgkmgbphaaPFnFdbsBentx5
import Derived.Test.YtkcgghgkmgbphaaPFnFdbsBentx6
import Derived.Test.YtkcgghgkmgbphaaPFnFdbsBentx11
namespace Go.Proofs.Ytkcgghgkmgbphaa.PFnFdbsBent
open Go.RowKit Go.Proofs.YtkcgghgkmgbphaaW.PrintWords Go.Proofs.YtkcgghgkmgbphaaW.PrintLast Go.Proofs.YtkcgghgkmgbphaaW.PrintMore
attribute [local go_sem] max2_int min2_int max_two min_two max_three min_three max_four min_four   -- for this text's walks alone
set_option linter.unusedVariables false
set_option linter.unusedSimpArgs false

attribute [local go_sem] cell_setCell_m
/-! ### spec_l8Draw: function 130 -/
def spec_l8Draw.l0 : Nat → List (S49) → Int → List Int → Int → Int → Option ((List (S49)) × Int × Int)
 | 0, _, _, _, _, _ => none
 | k + 1, x3, x4, x1000, x1001, x1002 => if x4 > 0 then ((spec_l1Below.f x1000 x1001 x1002 6).bind fun bt304 => (if bt304.1 = 0 then ((spec_l1Below.f x1000 bt304.2.1 bt304.2.2 3).bind fun bt307 => ((spec_l6Mac.f x1000 bt307.2.1 bt307.2.2).bind fun bt310 => ((spec_l1Below.f x1000 bt310.2.1 bt310.2.2 4).bind fun bt313 => ((spec_SetStatic.f k x3 (wrap64 (1 + bt307.1)) bt310.1 bt313.1).bind fun bt316 => (spec_l8Draw.l0 k bt316.1 (wrap64 (x4 - 1)) x1000 bt313.2.1 bt313.2.2))))) else (if bt304.1 = 1 then ((spec_AgeAll.f k x3).bind fun t320 => (spec_l8Draw.l0 k t320 (wrap64 (x4 - 1)) x1000 bt304.2.1 bt304.2.2)) else ((spec_l1Below.f x1000 bt304.2.1 bt304.2.2 3).bind fun bt323 => ((spec_l6Mac.f x1000 bt323.2.1 bt323.2.2).bind fun bt326 => ((spec_l1Below.f x1000 bt326.2.1 bt326.2.2 3).bind fun bt329 => ((spec_l1Below.f x1000 bt329.2.1 bt329.2.2 4).bind fun bt332 => ((spec_Learn.f k x3 (wrap64 (1 + bt323.1)) (wrap64 (bt326.1 + bt329.1)) bt332.1).bind fun t335 => (spec_l8Draw.l0 k t335 (wrap64 (x4 - 1)) x1000 bt332.2.1 bt332.2.2))))))))) else (some (x3, x1001, x1002))
def spec_l8Draw.f (k : Nat) (s0_0 : List Int) (s0_1 : Int) (s0_2 : Int) : Option ((List (S49)) × Int × Int) := (spec_l1Below.f s0_0 s0_1 s0_2 10).bind fun bt301 => (spec_l8Draw.l0 k (([] : List (S49))) bt301.1 s0_0 bt301.2.1 bt301.2.2)
theorem spec_l8Draw.mono_l : ∀ k, (∀ y0 y1 y2 y3 y4, LeO (spec_l8Draw.l0 k y0 y1 y2 y3 y4) (spec_l8Draw.l0 (k + 1) y0 y1 y2 y3 y4))
 | 0 => fun _ _ _ _ _ r h => by simp [spec_l8Draw.l0] at h
 | k + 1 => by
  have ih0 := spec_l8Draw.mono_l k
  ·intro y0 y1 y2 y3 y4
   unfold spec_l8Draw.l0
   repeat' first
   | (with_reducible exact ih0 _ _ _ _ _)
   | (with_reducible exact spec_AgeAll.mono _ _)
   | (with_reducible exact spec_Learn.mono _ _ _ _ _)
   | (with_reducible exact spec_SetStatic.mono _ _ _ _ _)
   | (with_reducible exact LeO.refl _)
   | (with_reducible exact LeO.none _)
   | (with_reducible refine LeO.ite ?_ ?_)
   | (with_reducible refine LeO.bind ?_ (fun _ => ?_))
   | exact ih0 _ _ _ _ _
   | exact spec_AgeAll.mono _ _
   | exact spec_Learn.mono _ _ _ _ _
   | exact spec_SetStatic.mono _ _ _ _ _
   | exact LeO.none _
   | refine LeO.ite ?_ ?_
   | refine LeO.bind ?_ (fun _ => ?_)
theorem spec_l8Draw.mono : ∀ a0 a1 a2 k, LeO (spec_l8Draw.f k a0 a1 a2) (spec_l8Draw.f (k + 1) a0 a1 a2) := by
 intro a0 a1 a2 k
 have ih0 := spec_l8Draw.mono_l k
 unfold spec_l8Draw.f
 repeat' first
   | (with_reducible exact ih0 _ _ _ _ _)
   | (with_reducible exact spec_AgeAll.mono _ _)
   | (with_reducible exact spec_Learn.mono _ _ _ _ _)
   | (with_reducible exact spec_SetStatic.mono _ _ _ _ _)
   | (with_reducible exact LeO.refl _)
   | (with_reducible exact LeO.none _)
   | (with_reducible refine LeO.ite ?_ ?_)
   | (with_reducible refine LeO.bind ?_ (fun _ => ?_))
   | exact ih0 _ _ _ _ _
   | exact spec_AgeAll.mono _ _
   | exact spec_Learn.mono _ _ _ _ _
   | exact spec_SetStatic.mono _ _ _ _ _
   | exact LeO.none _
   | refine LeO.ite ?_ ?_
   | refine LeO.bind ?_ (fun _ => ?_)
set_option maxHeartbeats 8000000 in
set_option maxRecDepth 100000 in
theorem spec_l8Draw.calls (k : Nat) (g : Nat) (s0_0 : List Int) (s0_1 : Int) (s0_2 : Int) (r1 : List (S49)) (r2 : Int) (r3 : Int) (w0 w : World) (hI : IsS170 w0 w g s0_0 s0_1 s0_2) (hB : Below w0.heap.size w0 w) (h : spec_l8Draw.f k s0_0 s0_1 s0_2 = some (r1, r2, r3)) :
  Calls Try.prog 130 #[.pointer (some ⟨g, 0, none⟩)] w fun e w' => ∃ v0_ : Value, e = .returned (v0_) ∧ Kd.R k49 49 w' w.heap.size (fun _ => True) v0_ r1 ∧ IsS170 w0 w' g s0_0 r2 r3 ∧ Below w0.heap.size w0 w' ∧ KeepBut w w' g none := by
 have HI0 := zA hI
 have HK := zA (KeepBut.refl w g none)
 have HL := zA hB.size
 clear hI
 have HW0 := zA hB.size
 have HB := zA hB
 clear hB
 have H : ((spec_l1Below.f s0_0 s0_1 s0_2 10).bind fun bt301 => (spec_l8Draw.l0 k (([] : List (S49))) bt301.1 s0_0 bt301.2.1 bt301.2.2)) = some (r1, r2, r3) := h
 clear h
 obtain ⟨y298, hy298⟩ : ∃ y_ : List (S49), y_ = (([] : List (S49))) := ⟨_, rfl⟩
 replace H : ((spec_l1Below.f s0_0 s0_1 s0_2 10).bind fun bt301 => (spec_l8Draw.l0 k y298 bt301.1 s0_0 bt301.2.1 bt301.2.2)) = some (r1, r2, r3) := by first | (rw [hy298]; with_reducible exact H) | (have H2_ := (Option.bind_some _ _).symm.trans H; rw [hy298]; with_reducible exact H2_) | (have H2_ := (Option.bind_some _ _).symm.trans H; with_reducible exact H2_) | with_reducible exact H | (rw [hy298]; exact H) | exact H
 have Ny298 := zA hy298
 clear hy298
 obtain ⟨⟨t301, t302, t303⟩, A2, H⟩ := zB H
 try dsimp only at H
 have H' := zA H
 clear H
 go_enter Try.func130, Try.ntmps130
 go_wp2_with (first | ((with_reducible refine gate_dst (N := 5) rfl ?_); refine Kd.R_lit k49 _ 49 ?hg (N := 5) ?hd (xs := ([] : List (S49))) (inner := []) (ok := fun _ => True) (okp := fun _ => True) ?hr ?hp (fun _ hk => hk) trivial (Below.refl _ _) (Nat.le_refl _) zq53 ?_; (case hd => rfl); (case hg => rfl); (case hr => first | (go_simp; done) | (go_simp; rfl)); (case hp => exact (Reps.none _ _)); intro v299 w3 ho4 hb hg_ hnew_; clear hg_ hnew_; (first | rw [← Ny298.out] at ho4 | (simp only [Int.reduceToNat] at ho4; rw [← Ny298.out] at ho4)); have HO300 := zA (Kd.R_lower ho4 (keep_size (w := w) (g := g) (row := none) zq9)); replace HK := zA (KeepBut.trans zq9 (KeepBut.of_below hb g none) (.inl rfl)); replace HB := zA (below_step zq27 hb); replace HI0 := zA (IsS170.below zq26 hb); clear hb ho4) | ((with_reducible refine gate_callee (f := 131) rfl ?_); refine goesL_ (some 7) rfl rfl Try.func131 (by kernel_rfl) rfl #[.pointer (some ⟨g, 0, none⟩), .int .i64 10] rfl zq1 ?_; (with_reducible refine (spec_l1Below.calls g s0_0 s0_1 s0_2 10 t301 t302 t303 w0 _ ?side1 ?side2 A2.out).mono ?_); (case side1 => repeat (first | (with_reducible first | exact HI0.out | apply IsS170.alloc | apply IsS170.drewN | apply IsS170.drew | apply IsS170.set_1 | apply IsS170.set_2) | exact HI0.out)); (case side2 => repeat (first | (with_reducible first | exact HB.out | apply below_alloc | apply pw_below_drewN | apply below_drew1 | refine below_set ?_ (IsS170.ge HI0.out)) | exact HB.out)); rintro e w5 ⟨rfl, hi, hb, hk⟩; refine ⟨_, rfl, ?_⟩; replace HO300 := zA (Kd.R_mono (Kd.R_keep (IsS170.apart (show IsS170 w0 _ g s0_0 s0_1 s0_2 from by repeat (first | (with_reducible first | exact HI0.out | apply IsS170.alloc | apply IsS170.drewN | apply IsS170.drew | apply IsS170.set_1 | apply IsS170.set_2) | exact HI0.out)) (by (with_reducible repeat (first | apply Kd.R_alloc | apply Kd.R_drewN | apply Kd.R_drew)); exact HO300.out) zq40) hk (fun _ h => h.2)) (fun _ h => h.1)); replace HK := zA (KeepBut.trans zq9 hk (.inl rfl)); replace HB := zA (hb); replace HI0 := zA (hi); clear hb hk hi))
 go_loopg [3, 4] k (fun kq v3 v4 w' => ∃ (x3_1 : List (S49)) (x4_1 : Int) (x1001_1 : Int) (x1002_1 : Int), v4 = .int .i64 x4_1 ∧ Aside0 (spec_l8Draw.l0 kq x3_1 x4_1 s0_0 x1001_1 x1002_1 = some (r1, r2, r3)) ∧ Aside0 (kq ≤ k) ∧ Aside0 (Kd.R k49 49 w' w.heap.size (fun _ => True) v3 x3_1) ∧ Aside0 (IsS170 w0 w' g s0_0 x1001_1 x1002_1) ∧ Aside0 (KeepBut w w' g none) ∧ Aside0 (Below w0.heap.size w0 w'))
 case atStart => exact ⟨(y298), (t301), (t302), (t303), zq15, H', ⟨Nat.le_refl _⟩, ⟨by (with_reducible repeat (first | apply Kd.R_alloc | apply Kd.R_drewN | apply Kd.R_drew)); exact HO300.out⟩, ⟨by repeat (first | (with_reducible first | exact HI0.out | apply IsS170.alloc | apply IsS170.drewN | apply IsS170.drew | apply IsS170.set_1 | apply IsS170.set_2) | exact HI0.out)⟩, ⟨by repeat (first | (with_reducible first | exact HK.out | apply KeepBut.set_ | apply keep_drewN | apply keep_drew | apply keep_alloc) | exact HK.out)⟩, ⟨by repeat (first | (with_reducible first | exact HB.out | apply below_alloc | apply pw_below_drewN | apply below_drew1 | refine below_set ?_ (IsS170.ge HI0.out)) | exact HB.out)⟩⟩
 case round =>
  clear H'
  try clear c1
  try clear p2
  obtain ⟨x3_1, x4_1, x1001_1, x1002_1, rfl, HA, HK1, HO_3, HI0, HK, HB⟩ := hrel
  cases gk with
  | zero => exact absurd HA.out (by simp [spec_l8Draw.l0])
  | succ k1 =>
   have H := HA.out
   clear HA
   simp only [spec_l8Draw.l0] at H
   by_cases c6 : x4_1 > 0
   ·rw [if_pos c6] at H
    have c6b0 : decide (0 < x4_1) = true := decide_eq_true c6
    clear c6
    obtain ⟨⟨t304, t305, t306⟩, A7, H⟩ := zB H
    try dsimp only at H
    by_cases c8 : t304 = 0
    ·rw [if_pos c8] at H
     have c8b0 : (t304 == 0) = true := beq_iff_eq.mpr c8
     have c8b1 : (t304 != 0) = false := bne_eq_false_iff_eq.mpr c8
     clear c8
     obtain ⟨⟨t307, t308, t309⟩, A9, H⟩ := zB H
     try dsimp only at H
     obtain ⟨⟨t310, t311, t312⟩, A10, H⟩ := zB H
     try dsimp only at H
     obtain ⟨⟨t313, t314, t315⟩, A11, H⟩ := zB H
     try dsimp only at H
     obtain ⟨⟨t316, t317⟩, A12, H⟩ := zB H
     try dsimp only at H
     have H' := zA H
     clear H
     go_wp2_with (first | ((with_reducible refine gate_callee (f := 131) rfl ?_); refine goesL_ (some 13) rfl rfl Try.func131 (by kernel_rfl) rfl #[.pointer (some ⟨g, 0, none⟩), .int .i64 6] rfl zq1 ?_; (with_reducible refine (spec_l1Below.calls g s0_0 x1001_1 x1002_1 6 t304 t305 t306 w0 _ ?side1 ?side2 A7.out).mono ?_); (case side1 => repeat (first | (with_reducible first | exact HI0.out | apply IsS170.alloc | apply IsS170.drewN | apply IsS170.drew | apply IsS170.set_1 | apply IsS170.set_2) | exact HI0.out)); (case side2 => repeat (first | (with_reducible first | exact HB.out | apply below_alloc | apply pw_below_drewN | apply below_drew1 | refine below_set ?_ (IsS170.ge HI0.out)) | exact HB.out)); rintro e w13 ⟨rfl, hi, hb, hk⟩; refine ⟨_, rfl, ?_⟩; replace HO_3 := zA (Kd.R_mono (Kd.R_keep (IsS170.apart (show IsS170 w0 _ g s0_0 x1001_1 x1002_1 from by repeat (first | (with_reducible first | exact HI0.out | apply IsS170.alloc | apply IsS170.drewN | apply IsS170.drew | apply IsS170.set_1 | apply IsS170.set_2) | exact HI0.out)) zq23 zq40) hk (fun _ h => h.2)) (fun _ h => h.1)); replace HK := zA (KeepBut.trans zq9 hk (.inl rfl)); replace HB := zA (hb); replace HI0 := zA (hi); clear hb hk hi) | ((with_reducible refine gate_callee (f := 131) rfl ?_); refine goesL_ (some 31) rfl rfl Try.func131 (by kernel_rfl) rfl #[.pointer (some ⟨g, 0, none⟩), .int .i64 3] rfl zq1 ?_; (with_reducible refine (spec_l1Below.calls g s0_0 t305 t306 3 t307 t308 t309 w0 _ ?side1 ?side2 A9.out).mono ?_); (case side1 => repeat (first | (with_reducible first | exact HI0.out | apply IsS170.alloc | apply IsS170.drewN | apply IsS170.drew | apply IsS170.set_1 | apply IsS170.set_2) | exact HI0.out)); (case side2 => repeat (first | (with_reducible first | exact HB.out | apply below_alloc | apply pw_below_drewN | apply below_drew1 | refine below_set ?_ (IsS170.ge HI0.out)) | exact HB.out)); rintro e w14 ⟨rfl, hi, hb, hk⟩; refine ⟨_, rfl, ?_⟩; replace HO_3 := zA (Kd.R_mono (Kd.R_keep (IsS170.apart (show IsS170 w0 _ g s0_0 t305 t306 from by repeat (first | (with_reducible first | exact HI0.out | apply IsS170.alloc | apply IsS170.drewN | apply IsS170.drew | apply IsS170.set_1 | apply IsS170.set_2) | exact HI0.out)) zq23 zq40) hk (fun _ h => h.2)) (fun _ h => h.1)); replace HK := zA (KeepBut.trans zq9 hk (.inl rfl)); replace HB := zA (hb); replace HI0 := zA (hi); clear hb hk hi) | ((with_reducible refine gate_callee (f := 132) rfl ?_); refine goesL_ (some 34) rfl rfl Try.func132 (by kernel_rfl) rfl #[.pointer (some ⟨g, 0, none⟩)] rfl zq1 ?_; (with_reducible refine (spec_l6Mac.calls g s0_0 t308 t309 t310 t311 t312 w0 _ ?side1 ?side2 A10.out).mono ?_); (case side1 => repeat (first | (with_reducible first | exact HI0.out | apply IsS170.alloc | apply IsS170.drewN | apply IsS170.drew | apply IsS170.set_1 | apply IsS170.set_2) | exact HI0.out)); (case side2 => repeat (first | (with_reducible first | exact HB.out | apply below_alloc | apply pw_below_drewN | apply below_drew1 | refine below_set ?_ (IsS170.ge HI0.out)) | exact HB.out)); rintro e w15 ⟨rfl, hi, hb, hk⟩; refine ⟨_, rfl, ?_⟩; replace HO_3 := zA (Kd.R_mono (Kd.R_keep (IsS170.apart (show IsS170 w0 _ g s0_0 t308 t309 from by repeat (first | (with_reducible first | exact HI0.out | apply IsS170.alloc | apply IsS170.drewN | apply IsS170.drew | apply IsS170.set_1 | apply IsS170.set_2) | exact HI0.out)) zq23 zq40) hk (fun _ h => h.2)) (fun _ h => h.1)); replace HK := zA (KeepBut.trans zq9 hk (.inl rfl)); replace HB := zA (hb); replace HI0 := zA (hi); clear hb hk hi) | ((with_reducible refine gate_callee (f := 131) rfl ?_); refine goesL_ (some 36) rfl rfl Try.func131 (by kernel_rfl) rfl #[.pointer (some ⟨g, 0, none⟩), .int .i64 4] rfl zq1 ?_; (with_reducible refine (spec_l1Below.calls g s0_0 t311 t312 4 t313 t314 t315 w0 _ ?side1 ?side2 A11.out).mono ?_); (case side1 => repeat (first | (with_reducible first | exact HI0.out | apply IsS170.alloc | apply IsS170.drewN | apply IsS170.drew | apply IsS170.set_1 | apply IsS170.set_2) | exact HI0.out)); (case side2 => repeat (first | (with_reducible first | exact HB.out | apply below_alloc | apply pw_below_drewN | apply below_drew1 | refine below_set ?_ (IsS170.ge HI0.out)) | exact HB.out)); rintro e w16 ⟨rfl, hi, hb, hk⟩; refine ⟨_, rfl, ?_⟩; replace HO_3 := zA (Kd.R_mono (Kd.R_keep (IsS170.apart (show IsS170 w0 _ g s0_0 t311 t312 from by repeat (first | (with_reducible first | exact HI0.out | apply IsS170.alloc | apply IsS170.drewN | apply IsS170.drew | apply IsS170.set_1 | apply IsS170.set_2) | exact HI0.out)) zq23 zq40) hk (fun _ h => h.2)) (fun _ h => h.1)); replace HK := zA (KeepBut.trans zq9 hk (.inl rfl)); replace HB := zA (hb); replace HI0 := zA (hi); clear hb hk hi; obtain ⟨Ao17, co17, eo17⟩ := Kd.R_slice HO_3.out; subst eo17) | ((with_reducible refine gate_callee (f := 51) rfl ?_); refine goesL_ (some 37) rfl rfl Try.func51 (by kernel_rfl) rfl #[.slice Ao17 x3_1.length co17, .int .i64 (wrap64 (1 + t307)), .int .i64 t310, .int .i64 t313] rfl zq1 ?_; (with_reducible refine (spec_SetStatic.calls k1 _ _ x3_1 (wrap64 (1 + t307)) t310 t313 t316 t317 _ ?side1 ?side2 A12.out).mono ?_); (case side1 => repeat (first | exact (Kd.R_reads' HO_3.out).2.2 | (with_reducible refine Kd.C_alloc ?_ _) | (with_reducible refine Kd.C_drewN ?_ _) | (with_reducible refine Kd.C_drew ?_))); (case side2 => exact (Kd.R_reads' HO_3.out).2.1); rintro e w18 ⟨v318, rfl, ho0, hb⟩; refine ⟨_, rfl, ?_⟩; have HO319 := zA (Kd.R_lower (Kd.R_new' ho0 (Kd.R_lt zq23)) (keep_size (w := w) (g := g) (row := none) zq9)); replace HO_3 := zA (Kd.R_elder' zq23 (Kd.R_base ho0) hb); replace HK := zA (KeepBut.trans zq9 (KeepBut.of_below hb g none) (.inl rfl)); replace HB := zA (below_step zq27 hb); replace HI0 := zA (IsS170.below zq26 hb); clear hb ho0))
     go_roundg k1
     case measure => have := HK1.out; omega
     case rel => exact ⟨(t316), (wrap64 (x4_1 - 1)), (t314), (t315), zq15, H', ⟨by have := HK1.out; omega⟩, ⟨by (with_reducible repeat (first | apply Kd.R_alloc | apply Kd.R_drewN | apply Kd.R_drew)); exact Kd.R_mono HO319.out (fun _ hk => trivial)⟩, ⟨by repeat (first | (with_reducible first | exact HI0.out | apply IsS170.alloc | apply IsS170.drewN | apply IsS170.drew | apply IsS170.set_1 | apply IsS170.set_2) | exact HI0.out)⟩, ⟨by repeat (first | (with_reducible first | exact HK.out | apply KeepBut.set_ | apply keep_drewN | apply keep_drew | apply keep_alloc) | exact HK.out)⟩, ⟨by repeat (first | (with_reducible first | exact HB.out | apply below_alloc | apply pw_below_drewN | apply below_drew1 | refine below_set ?_ (IsS170.ge HI0.out)) | exact HB.out)⟩⟩
    ·rw [if_neg c8] at H
     have c8b0 : (t304 == 0) = false := beq_eq_false_iff_ne.mpr c8
     have c8b1 : (t304 != 0) = true := bne_iff_ne.mpr c8
     by_cases c19 : t304 = 1
     ·rw [if_pos c19] at H
      have c19b0 : (t304 == 1) = true := beq_iff_eq.mpr c19
      have c19b1 : (t304 != 1) = false := bne_eq_false_iff_eq.mpr c19
      clear c19
      obtain ⟨t320, A20, H⟩ := zB H
      try dsimp only at H
      have H' := zA H
      clear H
      go_wp2_with (first | ((with_reducible refine gate_callee (f := 131) rfl ?_); refine goesL_ (some 13) rfl rfl Try.func131 (by kernel_rfl) rfl #[.pointer (some ⟨g, 0, none⟩), .int .i64 6] rfl zq1 ?_; (with_reducible refine (spec_l1Below.calls g s0_0 x1001_1 x1002_1 6 t304 t305 t306 w0 _ ?side1 ?side2 A7.out).mono ?_); (case side1 => repeat (first | (with_reducible first | exact HI0.out | apply IsS170.alloc | apply IsS170.drewN | apply IsS170.drew | apply IsS170.set_1 | apply IsS170.set_2) | exact HI0.out)); (case side2 => repeat (first | (with_reducible first | exact HB.out | apply below_alloc | apply pw_below_drewN | apply below_drew1 | refine below_set ?_ (IsS170.ge HI0.out)) | exact HB.out)); rintro e w21 ⟨rfl, hi, hb, hk⟩; refine ⟨_, rfl, ?_⟩; replace HO_3 := zA (Kd.R_mono (Kd.R_keep (IsS170.apart (show IsS170 w0 _ g s0_0 x1001_1 x1002_1 from by repeat (first | (with_reducible first | exact HI0.out | apply IsS170.alloc | apply IsS170.drewN | apply IsS170.drew | apply IsS170.set_1 | apply IsS170.set_2) | exact HI0.out)) zq23 zq40) hk (fun _ h => h.2)) (fun _ h => h.1)); replace HK := zA (KeepBut.trans zq9 hk (.inl rfl)); replace HB := zA (hb); replace HI0 := zA (hi); clear hb hk hi; obtain ⟨Ao22, co22, eo22⟩ := Kd.R_slice HO_3.out; subst eo22) | ((with_reducible refine gate_callee (f := 42) rfl ?_); refine goesL_ (some 43) rfl rfl Try.func42 (by kernel_rfl) rfl #[.slice Ao22 x3_1.length co22] rfl zq1 ?_; (with_reducible refine (spec_AgeAll.calls k1 _ _ x3_1 t320 _ ?side1 ?side2 A20.out).mono ?_); (case side1 => repeat (first | exact (Kd.R_reads' HO_3.out).2.2 | (with_reducible refine Kd.C_alloc ?_ _) | (with_reducible refine Kd.C_drewN ?_ _) | (with_reducible refine Kd.C_drew ?_))); (case side2 => exact (Kd.R_reads' HO_3.out).2.1); rintro e w23 ⟨v321, rfl, ho0, hb⟩; refine ⟨_, rfl, ?_⟩; have HO322 := zA (Kd.R_lower (Kd.R_new' ho0 (Kd.R_lt zq23)) (keep_size (w := w) (g := g) (row := none) zq9)); replace HO_3 := zA (Kd.R_elder' zq23 (Kd.R_base ho0) hb); replace HK := zA (KeepBut.trans zq9 (KeepBut.of_below hb g none) (.inl rfl)); replace HB := zA (below_step zq27 hb); replace HI0 := zA (IsS170.below zq26 hb); clear hb ho0))
      go_roundg k1
      case measure => have := HK1.out; omega
      case rel => exact ⟨(t320), (wrap64 (x4_1 - 1)), (t305), (t306), zq15, H', ⟨by have := HK1.out; omega⟩, ⟨by (with_reducible repeat (first | apply Kd.R_alloc | apply Kd.R_drewN | apply Kd.R_drew)); exact Kd.R_mono HO322.out (fun _ hk => trivial)⟩, ⟨by repeat (first | (with_reducible first | exact HI0.out | apply IsS170.alloc | apply IsS170.drewN | apply IsS170.drew | apply IsS170.set_1 | apply IsS170.set_2) | exact HI0.out)⟩, ⟨by repeat (first | (with_reducible first | exact HK.out | apply KeepBut.set_ | apply keep_drewN | apply keep_drew | apply keep_alloc) | exact HK.out)⟩, ⟨by repeat (first | (with_reducible first | exact HB.out | apply below_alloc | apply pw_below_drewN | apply below_drew1 | refine below_set ?_ (IsS170.ge HI0.out)) | exact HB.out)⟩⟩
     ·rw [if_neg c19] at H
      have c19b0 : (t304 == 1) = false := beq_eq_false_iff_ne.mpr c19
      have c19b1 : (t304 != 1) = true := bne_iff_ne.mpr c19
      obtain ⟨⟨t323, t324, t325⟩, A24, H⟩ := zB H
      try dsimp only at H
      obtain ⟨⟨t326, t327, t328⟩, A25, H⟩ := zB H
      try dsimp only at H
      obtain ⟨⟨t329, t330, t331⟩, A26, H⟩ := zB H
      try dsimp only at H
      obtain ⟨⟨t332, t333, t334⟩, A27, H⟩ := zB H
      try dsimp only at H
      obtain ⟨t335, A28, H⟩ := zB H
      try dsimp only at H
      have H' := zA H
      clear H
      go_wp2_with (first | ((with_reducible refine gate_callee (f := 131) rfl ?_); refine goesL_ (some 13) rfl rfl Try.func131 (by kernel_rfl) rfl #[.pointer (some ⟨g, 0, none⟩), .int .i64 6] rfl zq1 ?_; (with_reducible refine (spec_l1Below.calls g s0_0 x1001_1 x1002_1 6 t304 t305 t306 w0 _ ?side1 ?side2 A7.out).mono ?_); (case side1 => repeat (first | (with_reducible first | exact HI0.out | apply IsS170.alloc | apply IsS170.drewN | apply IsS170.drew | apply IsS170.set_1 | apply IsS170.set_2) | exact HI0.out)); (case side2 => repeat (first | (with_reducible first | exact HB.out | apply below_alloc | apply pw_below_drewN | apply below_drew1 | refine below_set ?_ (IsS170.ge HI0.out)) | exact HB.out)); rintro e w29 ⟨rfl, hi, hb, hk⟩; refine ⟨_, rfl, ?_⟩; replace HO_3 := zA (Kd.R_mono (Kd.R_keep (IsS170.apart (show IsS170 w0 _ g s0_0 x1001_1 x1002_1 from by repeat (first | (with_reducible first | exact HI0.out | apply IsS170.alloc | apply IsS170.drewN | apply IsS170.drew | apply IsS170.set_1 | apply IsS170.set_2) | exact HI0.out)) zq23 zq40) hk (fun _ h => h.2)) (fun _ h => h.1)); replace HK := zA (KeepBut.trans zq9 hk (.inl rfl)); replace HB := zA (hb); replace HI0 := zA (hi); clear hb hk hi) | ((with_reducible refine gate_callee (f := 131) rfl ?_); refine goesL_ (some 16) rfl rfl Try.func131 (by kernel_rfl) rfl #[.pointer (some ⟨g, 0, none⟩), .int .i64 3] rfl zq1 ?_; (with_reducible refine (spec_l1Below.calls g s0_0 t305 t306 3 t323 t324 t325 w0 _ ?side1 ?side2 A24.out).mono ?_); (case side1 => repeat (first | (with_reducible first | exact HI0.out | apply IsS170.alloc | apply IsS170.drewN | apply IsS170.drew | apply IsS170.set_1 | apply IsS170.set_2) | exact HI0.out)); (case side2 => repeat (first | (with_reducible first | exact HB.out | apply below_alloc | apply pw_below_drewN | apply below_drew1 | refine below_set ?_ (IsS170.ge HI0.out)) | exact HB.out)); rintro e w30 ⟨rfl, hi, hb, hk⟩; refine ⟨_, rfl, ?_⟩; replace HO_3 := zA (Kd.R_mono (Kd.R_keep (IsS170.apart (show IsS170 w0 _ g s0_0 t305 t306 from by repeat (first | (with_reducible first | exact HI0.out | apply IsS170.alloc | apply IsS170.drewN | apply IsS170.drew | apply IsS170.set_1 | apply IsS170.set_2) | exact HI0.out)) zq23 zq40) hk (fun _ h => h.2)) (fun _ h => h.1)); replace HK := zA (KeepBut.trans zq9 hk (.inl rfl)); replace HB := zA (hb); replace HI0 := zA (hi); clear hb hk hi) | ((with_reducible refine gate_callee (f := 132) rfl ?_); refine goesL_ (some 19) rfl rfl Try.func132 (by kernel_rfl) rfl #[.pointer (some ⟨g, 0, none⟩)] rfl zq1 ?_; (with_reducible refine (spec_l6Mac.calls g s0_0 t324 t325 t326 t327 t328 w0 _ ?side1 ?side2 A25.out).mono ?_); (case side1 => repeat (first | (with_reducible first | exact HI0.out | apply IsS170.alloc | apply IsS170.drewN | apply IsS170.drew | apply IsS170.set_1 | apply IsS170.set_2) | exact HI0.out)); (case side2 => repeat (first | (with_reducible first | exact HB.out | apply below_alloc | apply pw_below_drewN | apply below_drew1 | refine below_set ?_ (IsS170.ge HI0.out)) | exact HB.out)); rintro e w31 ⟨rfl, hi, hb, hk⟩; refine ⟨_, rfl, ?_⟩; replace HO_3 := zA (Kd.R_mono (Kd.R_keep (IsS170.apart (show IsS170 w0 _ g s0_0 t324 t325 from by repeat (first | (with_reducible first | exact HI0.out | apply IsS170.alloc | apply IsS170.drewN | apply IsS170.drew | apply IsS170.set_1 | apply IsS170.set_2) | exact HI0.out)) zq23 zq40) hk (fun _ h => h.2)) (fun _ h => h.1)); replace HK := zA (KeepBut.trans zq9 hk (.inl rfl)); replace HB := zA (hb); replace HI0 := zA (hi); clear hb hk hi) | ((with_reducible refine gate_callee (f := 131) rfl ?_); refine goesL_ (some 21) rfl rfl Try.func131 (by kernel_rfl) rfl #[.pointer (some ⟨g, 0, none⟩), .int .i64 3] rfl zq1 ?_; (with_reducible refine (spec_l1Below.calls g s0_0 t327 t328 3 t329 t330 t331 w0 _ ?side1 ?side2 A26.out).mono ?_); (case side1 => repeat (first | (with_reducible first | exact HI0.out | apply IsS170.alloc | apply IsS170.drewN | apply IsS170.drew | apply IsS170.set_1 | apply IsS170.set_2) | exact HI0.out)); (case side2 => repeat (first | (with_reducible first | exact HB.out | apply below_alloc | apply pw_below_drewN | apply below_drew1 | refine below_set ?_ (IsS170.ge HI0.out)) | exact HB.out)); rintro e w32 ⟨rfl, hi, hb, hk⟩; refine ⟨_, rfl, ?_⟩; replace HO_3 := zA (Kd.R_mono (Kd.R_keep (IsS170.apart (show IsS170 w0 _ g s0_0 t327 t328 from by repeat (first | (with_reducible first | exact HI0.out | apply IsS170.alloc | apply IsS170.drewN | apply IsS170.drew | apply IsS170.set_1 | apply IsS170.set_2) | exact HI0.out)) zq23 zq40) hk (fun _ h => h.2)) (fun _ h => h.1)); replace HK := zA (KeepBut.trans zq9 hk (.inl rfl)); replace HB := zA (hb); replace HI0 := zA (hi); clear hb hk hi) | ((with_reducible refine gate_callee (f := 131) rfl ?_); refine goesL_ (some 24) rfl rfl Try.func131 (by kernel_rfl) rfl #[.pointer (some ⟨g, 0, none⟩), .int .i64 4] rfl zq1 ?_; (with_reducible refine (spec_l1Below.calls g s0_0 t330 t331 4 t332 t333 t334 w0 _ ?side1 ?side2 A27.out).mono ?_); (case side1 => repeat (first | (with_reducible first | exact HI0.out | apply IsS170.alloc | apply IsS170.drewN | apply IsS170.drew | apply IsS170.set_1 | apply IsS170.set_2) | exact HI0.out)); (case side2 => repeat (first | (with_reducible first | exact HB.out | apply below_alloc | apply pw_below_drewN | apply below_drew1 | refine below_set ?_ (IsS170.ge HI0.out)) | exact HB.out)); rintro e w33 ⟨rfl, hi, hb, hk⟩; refine ⟨_, rfl, ?_⟩; replace HO_3 := zA (Kd.R_mono (Kd.R_keep (IsS170.apart (show IsS170 w0 _ g s0_0 t330 t331 from by repeat (first | (with_reducible first | exact HI0.out | apply IsS170.alloc | apply IsS170.drewN | apply IsS170.drew | apply IsS170.set_1 | apply IsS170.set_2) | exact HI0.out)) zq23 zq40) hk (fun _ h => h.2)) (fun _ h => h.1)); replace HK := zA (KeepBut.trans zq9 hk (.inl rfl)); replace HB := zA (hb); replace HI0 := zA (hi); clear hb hk hi; obtain ⟨Ao34, co34, eo34⟩ := Kd.R_slice HO_3.out; subst eo34) | ((with_reducible refine gate_callee (f := 57) rfl ?_); refine goesL_ (some 25) rfl rfl Try.func57 (by kernel_rfl) rfl #[.slice Ao34 x3_1.length co34, .int .i64 (wrap64 (1 + t323)), .int .i64 (wrap64 (t326 + t329)), .int .i64 t332] rfl zq1 ?_; (with_reducible refine (spec_Learn.calls k1 _ _ x3_1 (wrap64 (1 + t323)) (wrap64 (t326 + t329)) t332 t335 _ ?side1 ?side2 A28.out).mono ?_); (case side1 => repeat (first | exact (Kd.R_reads' HO_3.out).2.2 | (with_reducible refine Kd.C_alloc ?_ _) | (with_reducible refine Kd.C_drewN ?_ _) | (with_reducible refine Kd.C_drew ?_))); (case side2 => exact (Kd.R_reads' HO_3.out).2.1); rintro e w35 ⟨v336, rfl, ho0, hb⟩; refine ⟨_, rfl, ?_⟩; have HO337 := zA (Kd.R_lower (Kd.R_new' ho0 (Kd.R_lt zq23)) (keep_size (w := w) (g := g) (row := none) zq9)); replace HO_3 := zA (Kd.R_elder' zq23 (Kd.R_base ho0) hb); replace HK := zA (KeepBut.trans zq9 (KeepBut.of_below hb g none) (.inl rfl)); replace HB := zA (below_step zq27 hb); replace HI0 := zA (IsS170.below zq26 hb); clear hb ho0))
      go_roundg k1
      case measure => have := HK1.out; omega
      case rel => exact ⟨(t335), (wrap64 (x4_1 - 1)), (t333), (t334), zq15, H', ⟨by have := HK1.out; omega⟩, ⟨by (with_reducible repeat (first | apply Kd.R_alloc | apply Kd.R_drewN | apply Kd.R_drew)); exact Kd.R_mono HO337.out (fun _ hk => trivial)⟩, ⟨by repeat (first | (with_reducible first | exact HI0.out | apply IsS170.alloc | apply IsS170.drewN | apply IsS170.drew | apply IsS170.set_1 | apply IsS170.set_2) | exact HI0.out)⟩, ⟨by repeat (first | (with_reducible first | exact HK.out | apply KeepBut.set_ | apply keep_drewN | apply keep_drew | apply keep_alloc) | exact HK.out)⟩, ⟨by repeat (first | (with_reducible first | exact HB.out | apply below_alloc | apply pw_below_drewN | apply below_drew1 | refine below_set ?_ (IsS170.ge HI0.out)) | exact HB.out)⟩⟩
   ·rw [if_neg c6] at H
    have c6b0 : decide (0 < x4_1) = false := decide_eq_false c6
    clear c6
    simp only [Option.some.injEq, Prod.mk.injEq] at H
    obtain ⟨rfl, rfl, rfl⟩ := H
    go_wp2
    go_ret
    exact ⟨_, by first | rfl | (simp [errW_none, errW_some] <;> rfl) | (simp [*, errW_none, errW_some] <;> rfl), by (with_reducible repeat (first | apply Kd.R_alloc | apply Kd.R_drewN | apply Kd.R_drew)); exact HO_3.out, by repeat (first | (with_reducible first | exact HI0.out | apply IsS170.alloc | apply IsS170.drewN | apply IsS170.drew | apply IsS170.set_1 | apply IsS170.set_2) | exact HI0.out), by repeat (first | (with_reducible first | exact HB.out | apply below_alloc | apply pw_below_drewN | apply below_drew1 | refine below_set ?_ (IsS170.ge HI0.out)) | exact HB.out), by repeat (first | (with_reducible first | exact HK.out | apply KeepBut.set_ | apply keep_drewN | apply keep_drew | apply keep_alloc) | exact HK.out)⟩

/-! ### spec_l8Any: function 139 -/
def spec_l8Any.l0 : Nat → List (S49) → Int → List Int → Int → Int → Option ((List (S49)) × Int × Int)
 | 0, _, _, _, _, _ => none
 | k + 1, x3, x4, x1000, x1001, x1002 => (spec_l1Below.f x1000 x1001 x1002 3).bind fun bt373 => (if x4 < (wrap64 (11 + bt373.1)) then (if x3.length < 3518437208883 then (spec_l8Any.l0 k (x3 ++ [(⟨50, wrap64 (100 + x4), 1, 0, false⟩ : S49)]) (wrap64 (x4 + 1)) x1000 bt373.2.1 bt373.2.2) else (none)) else (some (x3, bt373.2.1, bt373.2.2)))
def spec_l8Any.f (k : Nat) (s0_0 : List Int) (s0_1 : Int) (s0_2 : Int) : Option ((List (S49)) × Int × Int) := (spec_l8Draw.f k s0_0 s0_1 s0_2).bind fun bt338 => ((spec_l1Below.f s0_0 bt338.2.1 bt338.2.2 12).bind fun bt343 => (if bt343.1 = 0 then ((spec_l1Int.f s0_0 bt343.2.1 bt343.2.2 (([0, 1, 99, 100] : List Int))).bind fun bt349 => ((spec_l1Int.f s0_0 bt349.2.1 bt349.2.2 (([0, 1, 9999] : List Int))).bind fun bt355 => ((spec_l1Int.f s0_0 bt355.2.1 bt355.2.2 (([(-1), 7, 8] : List Int))).bind fun bt361 => ((spec_l1Int.f s0_0 bt361.2.1 bt361.2.2 (([(-1), 4, 5] : List Int))).bind fun bt367 => (if bt338.1.length < 3518437208883 then (some ((bt338.1 ++ [(⟨bt349.1, bt355.1, bt361.1, bt367.1, false⟩ : S49)]), bt367.2.1, bt367.2.2)) else (none)))))) else (if bt343.1 = 1 then (spec_l8Any.l0 k bt338.1 0 s0_0 bt343.2.1 bt343.2.2) else (some (bt338.1, bt343.2.1, bt343.2.2)))))
theorem spec_l8Any.mono_l : ∀ k, (∀ y0 y1 y2 y3 y4, LeO (spec_l8Any.l0 k y0 y1 y2 y3 y4) (spec_l8Any.l0 (k + 1) y0 y1 y2 y3 y4))
 | 0 => fun _ _ _ _ _ r h => by simp [spec_l8Any.l0] at h
 | k + 1 => by
  have ih0 := spec_l8Any.mono_l k
  ·intro y0 y1 y2 y3 y4
   unfold spec_l8Any.l0
   repeat' first
   | (with_reducible exact ih0 _ _ _ _ _)
   | (with_reducible exact spec_l8Draw.mono _ _ _ _)
   | (with_reducible exact LeO.refl _)
   | (with_reducible exact LeO.none _)
   | (with_reducible refine LeO.ite ?_ ?_)
   | (with_reducible refine LeO.bind ?_ (fun _ => ?_))
   | exact ih0 _ _ _ _ _
   | exact spec_l8Draw.mono _ _ _ _
   | exact LeO.none _
   | refine LeO.ite ?_ ?_
   | refine LeO.bind ?_ (fun _ => ?_)
theorem spec_l8Any.mono : ∀ a0 a1 a2 k, LeO (spec_l8Any.f k a0 a1 a2) (spec_l8Any.f (k + 1) a0 a1 a2) := by
 intro a0 a1 a2 k
 have ih0 := spec_l8Any.mono_l k
 unfold spec_l8Any.f
 repeat' first
   | (with_reducible exact ih0 _ _ _ _ _)
   | (with_reducible exact spec_l8Draw.mono _ _ _ _)
   | (with_reducible exact LeO.refl _)
   | (with_reducible exact LeO.none _)
   | (with_reducible refine LeO.ite ?_ ?_)
   | (with_reducible refine LeO.bind ?_ (fun _ => ?_))
   | exact ih0 _ _ _ _ _
   | exact spec_l8Draw.mono _ _ _ _
   | exact LeO.none _
   | refine LeO.ite ?_ ?_
   | refine LeO.bind ?_ (fun _ => ?_)
set_option maxHeartbeats 8000000 in
set_option maxRecDepth 100000 in
theorem spec_l8Any.calls (k : Nat) (g : Nat) (s0_0 : List Int) (s0_1 : Int) (s0_2 : Int) (r1 : List (S49)) (r2 : Int) (r3 : Int) (w0 w : World) (hI : IsS170 w0 w g s0_0 s0_1 s0_2) (hB : Below w0.heap.size w0 w) (h : spec_l8Any.f k s0_0 s0_1 s0_2 = some (r1, r2, r3)) :
  Calls Try.prog 139 #[.pointer (some ⟨g, 0, none⟩)] w fun e w' => ∃ v0_ : Value, e = .returned (v0_) ∧ Kd.R k49 49 w' w.heap.size (fun _ => True) v0_ r1 ∧ IsS170 w0 w' g s0_0 r2 r3 ∧ Below w0.heap.size w0 w' ∧ KeepBut w w' g none := by
 have hu49 := Try.underlying49
 have HI0 := zA hI
 have HK := zA (KeepBut.refl w g none)
 have HL := zA hB.size
 clear hI
 have HW0 := zA hB.size
 have HB := zA hB
 clear hB
 have H : ((spec_l8Draw.f k s0_0 s0_1 s0_2).bind fun bt338 => ((spec_l1Below.f s0_0 bt338.2.1 bt338.2.2 12).bind fun bt343 => (if bt343.1 = 0 then ((spec_l1Int.f s0_0 bt343.2.1 bt343.2.2 (([0, 1, 99, 100] : List Int))).bind fun bt349 => ((spec_l1Int.f s0_0 bt349.2.1 bt349.2.2 (([0, 1, 9999] : List Int))).bind fun bt355 => ((spec_l1Int.f s0_0 bt355.2.1 bt355.2.2 (([(-1), 7, 8] : List Int))).bind fun bt361 => ((spec_l1Int.f s0_0 bt361.2.1 bt361.2.2 (([(-1), 4, 5] : List Int))).bind fun bt367 => (if bt338.1.length < 3518437208883 then (some ((bt338.1 ++ [(⟨bt349.1, bt355.1, bt361.1, bt367.1, false⟩ : S49)]), bt367.2.1, bt367.2.2)) else (none)))))) else (if bt343.1 = 1 then (spec_l8Any.l0 k bt338.1 0 s0_0 bt343.2.1 bt343.2.2) else (some (bt338.1, bt343.2.1, bt343.2.2)))))) = some (r1, r2, r3) := h
 clear h
 obtain ⟨⟨t338, t341, t342⟩, A2, H⟩ := zB H
 try dsimp only at H
 obtain ⟨⟨t343, t344, t345⟩, A3, H⟩ := zB H
 try dsimp only at H
 by_cases c4 : t343 = 0
 ·rw [if_pos c4] at H
  have c4b0 : (t343 == 0) = true := beq_iff_eq.mpr c4
  have c4b1 : (t343 != 0) = false := bne_eq_false_iff_eq.mpr c4
  clear c4
  obtain ⟨y346, hy346⟩ : ∃ y_ : List Int, y_ = (([0, 1, 99, 100] : List Int)) := ⟨_, rfl⟩
  replace H : ((spec_l1Int.f s0_0 t344 t345 y346).bind fun bt349 => ((spec_l1Int.f s0_0 bt349.2.1 bt349.2.2 (([0, 1, 9999] : List Int))).bind fun bt355 => ((spec_l1Int.f s0_0 bt355.2.1 bt355.2.2 (([(-1), 7, 8] : List Int))).bind fun bt361 => ((spec_l1Int.f s0_0 bt361.2.1 bt361.2.2 (([(-1), 4, 5] : List Int))).bind fun bt367 => (if t338.length < 3518437208883 then (some ((t338 ++ [(⟨bt349.1, bt355.1, bt361.1, bt367.1, false⟩ : S49)]), bt367.2.1, bt367.2.2)) else (none)))))) = some (r1, r2, r3) := by first | (rw [hy346]; with_reducible exact H) | (have H2_ := (Option.bind_some _ _).symm.trans H; rw [hy346]; with_reducible exact H2_) | (have H2_ := (Option.bind_some _ _).symm.trans H; with_reducible exact H2_) | with_reducible exact H | (rw [hy346]; exact H) | exact H
  have Ny346 := zA hy346
  clear hy346
  obtain ⟨⟨t349, t350, t351⟩, A5, H⟩ := zB H
  try dsimp only at H
  obtain ⟨y352, hy352⟩ : ∃ y_ : List Int, y_ = (([0, 1, 9999] : List Int)) := ⟨_, rfl⟩
  replace H : ((spec_l1Int.f s0_0 t350 t351 y352).bind fun bt355 => ((spec_l1Int.f s0_0 bt355.2.1 bt355.2.2 (([(-1), 7, 8] : List Int))).bind fun bt361 => ((spec_l1Int.f s0_0 bt361.2.1 bt361.2.2 (([(-1), 4, 5] : List Int))).bind fun bt367 => (if t338.length < 3518437208883 then (some ((t338 ++ [(⟨t349, bt355.1, bt361.1, bt367.1, false⟩ : S49)]), bt367.2.1, bt367.2.2)) else (none))))) = some (r1, r2, r3) := by first | (rw [hy352]; with_reducible exact H) | (have H2_ := (Option.bind_some _ _).symm.trans H; rw [hy352]; with_reducible exact H2_) | (have H2_ := (Option.bind_some _ _).symm.trans H; with_reducible exact H2_) | with_reducible exact H | (rw [hy352]; exact H) | exact H
  have Ny352 := zA hy352
  clear hy352
  obtain ⟨⟨t355, t356, t357⟩, A6, H⟩ := zB H
  try dsimp only at H
  obtain ⟨y358, hy358⟩ : ∃ y_ : List Int, y_ = (([(-1), 7, 8] : List Int)) := ⟨_, rfl⟩
  replace H : ((spec_l1Int.f s0_0 t356 t357 y358).bind fun bt361 => ((spec_l1Int.f s0_0 bt361.2.1 bt361.2.2 (([(-1), 4, 5] : List Int))).bind fun bt367 => (if t338.length < 3518437208883 then (some ((t338 ++ [(⟨t349, t355, bt361.1, bt367.1, false⟩ : S49)]), bt367.2.1, bt367.2.2)) else (none)))) = some (r1, r2, r3) := by first | (rw [hy358]; with_reducible exact H) | (have H2_ := (Option.bind_some _ _).symm.trans H; rw [hy358]; with_reducible exact H2_) | (have H2_ := (Option.bind_some _ _).symm.trans H; with_reducible exact H2_) | with_reducible exact H | (rw [hy358]; exact H) | exact H
  have Ny358 := zA hy358
  clear hy358
  obtain ⟨⟨t361, t362, t363⟩, A7, H⟩ := zB H
  try dsimp only at H
  obtain ⟨y364, hy364⟩ : ∃ y_ : List Int, y_ = (([(-1), 4, 5] : List Int)) := ⟨_, rfl⟩
  replace H : ((spec_l1Int.f s0_0 t362 t363 y364).bind fun bt367 => (if t338.length < 3518437208883 then (some ((t338 ++ [(⟨t349, t355, t361, bt367.1, false⟩ : S49)]), bt367.2.1, bt367.2.2)) else (none))) = some (r1, r2, r3) := by first | (rw [hy364]; with_reducible exact H) | (have H2_ := (Option.bind_some _ _).symm.trans H; rw [hy364]; with_reducible exact H2_) | (have H2_ := (Option.bind_some _ _).symm.trans H; with_reducible exact H2_) | with_reducible exact H | (rw [hy364]; exact H) | exact H
  have Ny364 := zA hy364
  clear hy364
  obtain ⟨⟨t367, t368, t369⟩, A8, H⟩ := zB H
  try dsimp only at H
  by_cases c9 : t338.length < 3518437208883
  ·rw [if_pos c9] at H
   have LMc9 := zA c9
   clear c9
   obtain ⟨y370, hy370⟩ : ∃ y_ : List (S49), y_ = (t338 ++ [(⟨t349, t355, t361, t367, false⟩ : S49)]) := ⟨_, rfl⟩
   replace H : (some (y370, t368, t369)) = some (r1, r2, r3) := by first | (rw [hy370]; with_reducible exact H) | (have H2_ := (Option.bind_some _ _).symm.trans H; rw [hy370]; with_reducible exact H2_) | (have H2_ := (Option.bind_some _ _).symm.trans H; with_reducible exact H2_) | with_reducible exact H | (rw [hy370]; exact H) | exact H
   have Ny370 := zA hy370
   clear hy370
   simp only [Option.some.injEq, Prod.mk.injEq] at H
   obtain ⟨rfl, rfl, rfl⟩ := H
   go_enter Try.func139, Try.ntmps139
   go_wp2_with (first | ((with_reducible refine gate_callee (f := 130) rfl ?_); refine goesL_ (some 6) rfl rfl Try.func130 (by kernel_rfl) rfl #[.pointer (some ⟨g, 0, none⟩)] rfl zq1 ?_; (with_reducible refine (spec_l8Draw.calls k g s0_0 s0_1 s0_2 t338 t341 t342 w0 _ ?side1 ?side2 A2.out).mono ?_); (case side1 => repeat (first | (with_reducible first | exact HI0.out | apply IsS170.alloc | apply IsS170.drewN | apply IsS170.drew | apply IsS170.set_1 | apply IsS170.set_2) | exact HI0.out)); (case side2 => repeat (first | (with_reducible first | exact HB.out | apply below_alloc | apply pw_below_drewN | apply below_drew1 | refine below_set ?_ (IsS170.ge HI0.out)) | exact HB.out)); rintro e w10 ⟨v339, rfl, ho0, hi, hb, hk⟩; refine ⟨_, rfl, ?_⟩; have HO340 := zA (Kd.R_lower ho0 (keep_size (w := w) (g := g) (row := none) zq9)); replace HK := zA (KeepBut.trans zq9 hk (.inl rfl)); replace HB := zA (hb); replace HI0 := zA (hi); clear hb hk hi ho0) | ((with_reducible refine gate_callee (f := 131) rfl ?_); refine goesL_ (some 8) rfl rfl Try.func131 (by kernel_rfl) rfl #[.pointer (some ⟨g, 0, none⟩), .int .i64 12] rfl zq1 ?_; (with_reducible refine (spec_l1Below.calls g s0_0 t341 t342 12 t343 t344 t345 w0 _ ?side1 ?side2 A3.out).mono ?_); (case side1 => repeat (first | (with_reducible first | exact HI0.out | apply IsS170.alloc | apply IsS170.drewN | apply IsS170.drew | apply IsS170.set_1 | apply IsS170.set_2) | exact HI0.out)); (case side2 => repeat (first | (with_reducible first | exact HB.out | apply below_alloc | apply pw_below_drewN | apply below_drew1 | refine below_set ?_ (IsS170.ge HI0.out)) | exact HB.out)); rintro e w11 ⟨rfl, hi, hb, hk⟩; refine ⟨_, rfl, ?_⟩; replace HO340 := zA (Kd.R_mono (Kd.R_keep (IsS170.apart (show IsS170 w0 _ g s0_0 t341 t342 from by repeat (first | (with_reducible first | exact HI0.out | apply IsS170.alloc | apply IsS170.drewN | apply IsS170.drew | apply IsS170.set_1 | apply IsS170.set_2) | exact HI0.out)) zq29 zq40) hk (fun _ h => h.2)) (fun _ h => h.1)); replace HK := zA (KeepBut.trans zq9 hk (.inl rfl)); replace HB := zA (hb); replace HI0 := zA (hi); clear hb hk hi) | ((with_reducible refine gate_dst (N := 13) rfl ?_); refine Kd.R_lit (Kd.int .i64) _ 3 ?hg (N := 13) ?hd (xs := ([0, 1, 99, 100] : List Int)) (inner := [.int .i64 0, .int .i64 1, .int .i64 99, .int .i64 100]) (ok := fun _ => True) (okp := fun _ => True) ?hr ?hp (fun _ hk => hk) trivial (Below.refl _ _) (Nat.le_refl _) zq53 ?_; (case hd => rfl); (case hg => rfl); (case hr => first | (go_simp; done) | (go_simp; rfl)); (case hp => exact (Reps.one (show Kd.M (Kd.int .i64) _ _ _ 0 [.int .i64 0] from rfl) (Reps.one (show Kd.M (Kd.int .i64) _ _ _ 1 [.int .i64 1] from rfl) (Reps.one (show Kd.M (Kd.int .i64) _ _ _ 99 [.int .i64 99] from rfl) (Reps.one (show Kd.M (Kd.int .i64) _ _ _ 100 [.int .i64 100] from rfl) (Reps.none _ _)))))); intro v347 w12 ho13 hb hg_ hnew_; clear hg_ hnew_; (first | rw [← Ny346.out] at ho13 | (simp only [Int.reduceToNat] at ho13; rw [← Ny346.out] at ho13)); replace HO340 := zA (Kd.R_below zq29 hb); have HO348 := zA (Kd.R_lower ho13 (keep_size (w := w) (g := g) (row := none) zq9)); replace HK := zA (KeepBut.trans zq9 (KeepBut.of_below hb g none) (.inl rfl)); replace HB := zA (below_step zq27 hb); replace HI0 := zA (IsS170.below zq26 hb); clear hb ho13; obtain ⟨Ao14, co14, eo14⟩ := Kd.R_slice HO348.out; subst eo14) | ((with_reducible refine gate_callee (f := 140) rfl ?_); refine goesL_ (some 14) rfl rfl Try.func140 (by kernel_rfl) rfl #[.pointer (some ⟨g, 0, none⟩), .slice Ao14 y346.length co14] rfl zq1 ?_; (with_reducible refine (spec_l1Int.calls g s0_0 t344 t345 _ _ y346 t349 t350 t351 w0 _ ?side1 ?side2 ?side3 ?side4 ?side5 A5.out).mono ?_); (case side1 => repeat (first | (with_reducible first | exact HI0.out | apply IsS170.alloc | apply IsS170.drewN | apply IsS170.drew | apply IsS170.set_1 | apply IsS170.set_2) | exact HI0.out)); (case side2 => repeat (first | (with_reducible first | exact HB.out | apply below_alloc | apply pw_below_drewN | apply below_drew1 | refine below_set ?_ (IsS170.ge HI0.out)) | exact HB.out)); (case side3 => repeat (first | exact (Kd.R_reads' HO348.out).2.2 | (with_reducible refine Kd.C_alloc ?_ _) | (with_reducible refine Kd.C_drewN ?_ _) | (with_reducible refine Kd.C_drew ?_))); (case side4 => exact (Kd.R_reads' HO348.out).2.1); (case side5 => exact far_slice (IsS170.own_ne HI0.out HO348.out zq40)); rintro e w15 ⟨rfl, hi, hb, hk⟩; refine ⟨_, rfl, ?_⟩; replace HO340 := zA (Kd.R_mono (Kd.R_keep (IsS170.apart (show IsS170 w0 _ g s0_0 t344 t345 from by repeat (first | (with_reducible first | exact HI0.out | apply IsS170.alloc | apply IsS170.drewN | apply IsS170.drew | apply IsS170.set_1 | apply IsS170.set_2) | exact HI0.out)) zq29 zq40) hk (fun _ h => h.2)) (fun _ h => h.1)); replace HO348 := zA (Kd.R_mono (Kd.R_keep (IsS170.apart (show IsS170 w0 _ g s0_0 t344 t345 from by repeat (first | (with_reducible first | exact HI0.out | apply IsS170.alloc | apply IsS170.drewN | apply IsS170.drew | apply IsS170.set_1 | apply IsS170.set_2) | exact HI0.out)) zq39 zq40) hk (fun _ h => h.2)) (fun _ h => h.1)); replace HK := zA (KeepBut.trans zq9 hk (.inl rfl)); replace HB := zA (hb); replace HI0 := zA (hi); clear hb hk hi) | ((with_reducible refine gate_dst (N := 16) rfl ?_); refine Kd.R_lit (Kd.int .i64) _ 3 ?hg (N := 16) ?hd (xs := ([0, 1, 9999] : List Int)) (inner := [.int .i64 0, .int .i64 1, .int .i64 9999]) (ok := fun _ => True) (okp := fun _ => True) ?hr ?hp (fun _ hk => hk) trivial (Below.refl _ _) (Nat.le_refl _) zq53 ?_; (case hd => rfl); (case hg => rfl); (case hr => first | (go_simp; done) | (go_simp; rfl)); (case hp => exact (Reps.one (show Kd.M (Kd.int .i64) _ _ _ 0 [.int .i64 0] from rfl) (Reps.one (show Kd.M (Kd.int .i64) _ _ _ 1 [.int .i64 1] from rfl) (Reps.one (show Kd.M (Kd.int .i64) _ _ _ 9999 [.int .i64 9999] from rfl) (Reps.none _ _))))); intro v353 w16 ho17 hb hg_ hnew_; clear hg_ hnew_; (first | rw [← Ny352.out] at ho17 | (simp only [Int.reduceToNat] at ho17; rw [← Ny352.out] at ho17)); replace HO340 := zA (Kd.R_below zq29 hb); have HO354 := zA (Kd.R_lower (Kd.R_new' ho17 (Kd.R_lt zq39)) (keep_size (w := w) (g := g) (row := none) zq9)); replace HO348 := zA (Kd.R_elder' zq39 (Kd.R_base ho17) hb); replace HK := zA (KeepBut.trans zq9 (KeepBut.of_below hb g none) (.inl rfl)); replace HB := zA (below_step zq27 hb); replace HI0 := zA (IsS170.below zq26 hb); clear hb ho17; obtain ⟨Ao18, co18, eo18⟩ := Kd.R_slice HO354.out; subst eo18) | ((with_reducible refine gate_callee (f := 140) rfl ?_); refine goesL_ (some 17) rfl rfl Try.func140 (by kernel_rfl) rfl #[.pointer (some ⟨g, 0, none⟩), .slice Ao18 y352.length co18] rfl zq1 ?_; (with_reducible refine (spec_l1Int.calls g s0_0 t350 t351 _ _ y352 t355 t356 t357 w0 _ ?side1 ?side2 ?side3 ?side4 ?side5 A6.out).mono ?_); (case side1 => repeat (first | (with_reducible first | exact HI0.out | apply IsS170.alloc | apply IsS170.drewN | apply IsS170.drew | apply IsS170.set_1 | apply IsS170.set_2) | exact HI0.out)); (case side2 => repeat (first | (with_reducible first | exact HB.out | apply below_alloc | apply pw_below_drewN | apply below_drew1 | refine below_set ?_ (IsS170.ge HI0.out)) | exact HB.out)); (case side3 => repeat (first | exact (Kd.R_reads' HO354.out).2.2 | (with_reducible refine Kd.C_alloc ?_ _) | (with_reducible refine Kd.C_drewN ?_ _) | (with_reducible refine Kd.C_drew ?_))); (case side4 => exact (Kd.R_reads' HO354.out).2.1); (case side5 => exact far_slice (IsS170.own_ne HI0.out HO354.out zq40)); rintro e w19 ⟨rfl, hi, hb, hk⟩; refine ⟨_, rfl, ?_⟩; replace HO340 := zA (Kd.R_mono (Kd.R_keep (IsS170.apart (show IsS170 w0 _ g s0_0 t350 t351 from by repeat (first | (with_reducible first | exact HI0.out | apply IsS170.alloc | apply IsS170.drewN | apply IsS170.drew | apply IsS170.set_1 | apply IsS170.set_2) | exact HI0.out)) zq29 zq40) hk (fun _ h => h.2)) (fun _ h => h.1)); replace HO348 := zA (Kd.R_mono (Kd.R_keep (IsS170.apart (show IsS170 w0 _ g s0_0 t350 t351 from by repeat (first | (with_reducible first | exact HI0.out | apply IsS170.alloc | apply IsS170.drewN | apply IsS170.drew | apply IsS170.set_1 | apply IsS170.set_2) | exact HI0.out)) zq39 zq40) hk (fun _ h => h.2)) (fun _ h => h.1)); replace HO354 := zA (Kd.R_mono (Kd.R_keep (IsS170.apart (show IsS170 w0 _ g s0_0 t350 t351 from by repeat (first | (with_reducible first | exact HI0.out | apply IsS170.alloc | apply IsS170.drewN | apply IsS170.drew | apply IsS170.set_1 | apply IsS170.set_2) | exact HI0.out)) zq42 zq40) hk (fun _ h => h.2)) (fun _ h => h.1)); replace HK := zA (KeepBut.trans zq9 hk (.inl rfl)); replace HB := zA (hb); replace HI0 := zA (hi); clear hb hk hi) | ((with_reducible refine gate_dst (N := 19) rfl ?_); refine Kd.R_lit (Kd.int .i64) _ 3 ?hg (N := 19) ?hd (xs := ([(-1), 7, 8] : List Int)) (inner := [.int .i64 (-1), .int .i64 7, .int .i64 8]) (ok := fun _ => True) (okp := fun _ => True) ?hr ?hp (fun _ hk => hk) trivial (Below.refl _ _) (Nat.le_refl _) zq53 ?_; (case hd => rfl); (case hg => rfl); (case hr => first | (go_simp; done) | (go_simp; rfl)); (case hp => exact (Reps.one (show Kd.M (Kd.int .i64) _ _ _ (-1) [.int .i64 (-1)] from rfl) (Reps.one (show Kd.M (Kd.int .i64) _ _ _ 7 [.int .i64 7] from rfl) (Reps.one (show Kd.M (Kd.int .i64) _ _ _ 8 [.int .i64 8] from rfl) (Reps.none _ _))))); intro v359 w20 ho21 hb hg_ hnew_; clear hg_ hnew_; (first | rw [← Ny358.out] at ho21 | (simp only [Int.reduceToNat] at ho21; rw [← Ny358.out] at ho21)); replace HO340 := zA (Kd.R_below zq29 hb); have HO360 := zA (Kd.R_lower (Kd.R_new' (Kd.R_new' ho21 (Kd.R_lt zq39)) (Kd.R_lt zq42)) (keep_size (w := w) (g := g) (row := none) zq9)); replace HO348 := zA (Kd.R_elder' zq39 (Kd.R_base ho21) hb); replace HO354 := zA (Kd.R_elder' zq42 (Kd.R_base ho21) hb); replace HK := zA (KeepBut.trans zq9 (KeepBut.of_below hb g none) (.inl rfl)); replace HB := zA (below_step zq27 hb); replace HI0 := zA (IsS170.below zq26 hb); clear hb ho21; obtain ⟨Ao22, co22, eo22⟩ := Kd.R_slice HO360.out; subst eo22) | ((with_reducible refine gate_callee (f := 140) rfl ?_); refine goesL_ (some 20) rfl rfl Try.func140 (by kernel_rfl) rfl #[.pointer (some ⟨g, 0, none⟩), .slice Ao22 y358.length co22] rfl zq1 ?_; (with_reducible refine (spec_l1Int.calls g s0_0 t356 t357 _ _ y358 t361 t362 t363 w0 _ ?side1 ?side2 ?side3 ?side4 ?side5 A7.out).mono ?_); (case side1 => repeat (first | (with_reducible first | exact HI0.out | apply IsS170.alloc | apply IsS170.drewN | apply IsS170.drew | apply IsS170.set_1 | apply IsS170.set_2) | exact HI0.out)); (case side2 => repeat (first | (with_reducible first | exact HB.out | apply below_alloc | apply pw_below_drewN | apply below_drew1 | refine below_set ?_ (IsS170.ge HI0.out)) | exact HB.out)); (case side3 => repeat (first | exact (Kd.R_reads' HO360.out).2.2 | (with_reducible refine Kd.C_alloc ?_ _) | (with_reducible refine Kd.C_drewN ?_ _) | (with_reducible refine Kd.C_drew ?_))); (case side4 => exact (Kd.R_reads' HO360.out).2.1); (case side5 => exact far_slice (IsS170.own_ne HI0.out HO360.out zq40)); rintro e w23 ⟨rfl, hi, hb, hk⟩; refine ⟨_, rfl, ?_⟩; replace HO340 := zA (Kd.R_mono (Kd.R_keep (IsS170.apart (show IsS170 w0 _ g s0_0 t356 t357 from by repeat (first | (with_reducible first | exact HI0.out | apply IsS170.alloc | apply IsS170.drewN | apply IsS170.drew | apply IsS170.set_1 | apply IsS170.set_2) | exact HI0.out)) zq29 zq40) hk (fun _ h => h.2)) (fun _ h => h.1)); replace HO348 := zA (Kd.R_mono (Kd.R_keep (IsS170.apart (show IsS170 w0 _ g s0_0 t356 t357 from by repeat (first | (with_reducible first | exact HI0.out | apply IsS170.alloc | apply IsS170.drewN | apply IsS170.drew | apply IsS170.set_1 | apply IsS170.set_2) | exact HI0.out)) zq39 zq40) hk (fun _ h => h.2)) (fun _ h => h.1)); replace HO354 := zA (Kd.R_mono (Kd.R_keep (IsS170.apart (show IsS170 w0 _ g s0_0 t356 t357 from by repeat (first | (with_reducible first | exact HI0.out | apply IsS170.alloc | apply IsS170.drewN | apply IsS170.drew | apply IsS170.set_1 | apply IsS170.set_2) | exact HI0.out)) zq42 zq40) hk (fun _ h => h.2)) (fun _ h => h.1)); replace HO360 := zA (Kd.R_mono (Kd.R_keep (IsS170.apart (show IsS170 w0 _ g s0_0 t356 t357 from by repeat (first | (with_reducible first | exact HI0.out | apply IsS170.alloc | apply IsS170.drewN | apply IsS170.drew | apply IsS170.set_1 | apply IsS170.set_2) | exact HI0.out)) zq56 zq40) hk (fun _ h => h.2)) (fun _ h => h.1)); replace HK := zA (KeepBut.trans zq9 hk (.inl rfl)); replace HB := zA (hb); replace HI0 := zA (hi); clear hb hk hi) | ((with_reducible refine gate_dst (N := 22) rfl ?_); refine Kd.R_lit (Kd.int .i64) _ 3 ?hg (N := 22) ?hd (xs := ([(-1), 4, 5] : List Int)) (inner := [.int .i64 (-1), .int .i64 4, .int .i64 5]) (ok := fun _ => True) (okp := fun _ => True) ?hr ?hp (fun _ hk => hk) trivial (Below.refl _ _) (Nat.le_refl _) zq53 ?_; (case hd => rfl); (case hg => rfl); (case hr => first | (go_simp; done) | (go_simp; rfl)); (case hp => exact (Reps.one (show Kd.M (Kd.int .i64) _ _ _ (-1) [.int .i64 (-1)] from rfl) (Reps.one (show Kd.M (Kd.int .i64) _ _ _ 4 [.int .i64 4] from rfl) (Reps.one (show Kd.M (Kd.int .i64) _ _ _ 5 [.int .i64 5] from rfl) (Reps.none _ _))))); intro v365 w24 ho25 hb hg_ hnew_; clear hg_ hnew_; (first | rw [← Ny364.out] at ho25 | (simp only [Int.reduceToNat] at ho25; rw [← Ny364.out] at ho25)); replace HO340 := zA (Kd.R_below zq29 hb); have HO366 := zA (Kd.R_lower (Kd.R_new' (Kd.R_new' (Kd.R_new' ho25 (Kd.R_lt zq39)) (Kd.R_lt zq42)) (Kd.R_lt zq56)) (keep_size (w := w) (g := g) (row := none) zq9)); replace HO348 := zA (Kd.R_elder' zq39 (Kd.R_base ho25) hb); replace HO354 := zA (Kd.R_elder' zq42 (Kd.R_base ho25) hb); replace HO360 := zA (Kd.R_elder' zq56 (Kd.R_base ho25) hb); replace HK := zA (KeepBut.trans zq9 (KeepBut.of_below hb g none) (.inl rfl)); replace HB := zA (below_step zq27 hb); replace HI0 := zA (IsS170.below zq26 hb); clear hb ho25; obtain ⟨Ao26, co26, eo26⟩ := Kd.R_slice HO366.out; subst eo26) | ((with_reducible refine gate_callee (f := 140) rfl ?_); refine goesL_ (some 23) rfl rfl Try.func140 (by kernel_rfl) rfl #[.pointer (some ⟨g, 0, none⟩), .slice Ao26 y364.length co26] rfl zq1 ?_; (with_reducible refine (spec_l1Int.calls g s0_0 t362 t363 _ _ y364 t367 t368 t369 w0 _ ?side1 ?side2 ?side3 ?side4 ?side5 A8.out).mono ?_); (case side1 => repeat (first | (with_reducible first | exact HI0.out | apply IsS170.alloc | apply IsS170.drewN | apply IsS170.drew | apply IsS170.set_1 | apply IsS170.set_2) | exact HI0.out)); (case side2 => repeat (first | (with_reducible first | exact HB.out | apply below_alloc | apply pw_below_drewN | apply below_drew1 | refine below_set ?_ (IsS170.ge HI0.out)) | exact HB.out)); (case side3 => repeat (first | exact (Kd.R_reads' HO366.out).2.2 | (with_reducible refine Kd.C_alloc ?_ _) | (with_reducible refine Kd.C_drewN ?_ _) | (with_reducible refine Kd.C_drew ?_))); (case side4 => exact (Kd.R_reads' HO366.out).2.1); (case side5 => exact far_slice (IsS170.own_ne HI0.out HO366.out zq40)); rintro e w27 ⟨rfl, hi, hb, hk⟩; refine ⟨_, rfl, ?_⟩; replace HO340 := zA (Kd.R_mono (Kd.R_keep (IsS170.apart (show IsS170 w0 _ g s0_0 t362 t363 from by repeat (first | (with_reducible first | exact HI0.out | apply IsS170.alloc | apply IsS170.drewN | apply IsS170.drew | apply IsS170.set_1 | apply IsS170.set_2) | exact HI0.out)) zq29 zq40) hk (fun _ h => h.2)) (fun _ h => h.1)); replace HO348 := zA (Kd.R_mono (Kd.R_keep (IsS170.apart (show IsS170 w0 _ g s0_0 t362 t363 from by repeat (first | (with_reducible first | exact HI0.out | apply IsS170.alloc | apply IsS170.drewN | apply IsS170.drew | apply IsS170.set_1 | apply IsS170.set_2) | exact HI0.out)) zq39 zq40) hk (fun _ h => h.2)) (fun _ h => h.1)); replace HO354 := zA (Kd.R_mono (Kd.R_keep (IsS170.apart (show IsS170 w0 _ g s0_0 t362 t363 from by repeat (first | (with_reducible first | exact HI0.out | apply IsS170.alloc | apply IsS170.drewN | apply IsS170.drew | apply IsS170.set_1 | apply IsS170.set_2) | exact HI0.out)) zq42 zq40) hk (fun _ h => h.2)) (fun _ h => h.1)); replace HO360 := zA (Kd.R_mono (Kd.R_keep (IsS170.apart (show IsS170 w0 _ g s0_0 t362 t363 from by repeat (first | (with_reducible first | exact HI0.out | apply IsS170.alloc | apply IsS170.drewN | apply IsS170.drew | apply IsS170.set_1 | apply IsS170.set_2) | exact HI0.out)) zq56 zq40) hk (fun _ h => h.2)) (fun _ h => h.1)); replace HO366 := zA (Kd.R_mono (Kd.R_keep (IsS170.apart (show IsS170 w0 _ g s0_0 t362 t363 from by repeat (first | (with_reducible first | exact HI0.out | apply IsS170.alloc | apply IsS170.drewN | apply IsS170.drew | apply IsS170.set_1 | apply IsS170.set_2) | exact HI0.out)) zq78 zq40) hk (fun _ h => h.2)) (fun _ h => h.1)); replace HK := zA (KeepBut.trans zq9 hk (.inl rfl)); replace HB := zA (hb); replace HI0 := zA (hi); clear hb hk hi) | ((with_reducible refine gate_builtin (b := .append) (xs := #[.tmp 11, .tmp 25]) rfl ?_); at_builtin; refine Kd.R_append k49 w.heap.size rfl (.tmp 11) (.tmp 25) 43 49 (.agg #[(.int .i64 0), (.int .i64 0), (.int .i64 0), (.int .i64 0), (.bool false)]) 40 rfl Try.underlying43 info49 rfl zq40 zq66 v339 t338 (⟨t349, t355, t361, t367, false⟩ : S49) [.int .i64 t349, .int .i64 t355, .int .i64 t361, .int .i64 t367, .bool false] (fun _ => True) (fun _ => False) rfl rfl ?aP (fun _ hk => hk.elim) ?aF ?aO (Below.refl _ _) ?aS ?aL ?_; (case aP => exact k49_mkM _ _ _ (⟨t349, t355, t361, t367, false⟩ : S49)); (case aF => exact (fun _ _ => trivial)); (case aO => exact zq29); (case aS => exact (keep_size (w := w) (g := g) (row := none) zq9)); (case aL => have := LMc9.out; omega); intro v371 w28 ho hb hg hat; rw [← Ny370.out] at ho; replace HO348 := zA (Kd.R_over' zq39 (Kd.R_typed zq29) zq40 hg); replace HO354 := zA (Kd.R_over' zq42 (Kd.R_typed zq29) zq40 hg); replace HO360 := zA (Kd.R_over' zq56 (Kd.R_typed zq29) zq40 hg); replace HO366 := zA (Kd.R_over' zq78 (Kd.R_typed zq29) zq40 hg); replace HB := zA (below_weaken zq27 HL.out hb); replace HI0 := zA (IsS170.grown zq26 hg (IsS170.own_ne HI0.out HO340.out zq40)); replace HK := zA (KeepBut.trans zq9 (KeepBut.of_grown hg g) (Kd.R_base2 HO340.out)); have HO372 := zA (ho); clear HO340; clear ho hb hg hat))
   go_ret
   exact ⟨_, by first | rfl | (simp [errW_none, errW_some] <;> rfl) | (simp [*, errW_none, errW_some] <;> rfl), by (with_reducible repeat (first | apply Kd.R_alloc | apply Kd.R_drewN | apply Kd.R_drew)); exact HO372.out, by repeat (first | (with_reducible first | exact HI0.out | apply IsS170.alloc | apply IsS170.drewN | apply IsS170.drew | apply IsS170.set_1 | apply IsS170.set_2) | exact HI0.out), by repeat (first | (with_reducible first | exact HB.out | apply below_alloc | apply pw_below_drewN | apply below_drew1 | refine below_set ?_ (IsS170.ge HI0.out)) | exact HB.out), by repeat (first | (with_reducible first | exact HK.out | apply KeepBut.set_ | apply keep_drewN | apply keep_drew | apply keep_alloc) | exact HK.out)⟩
  ·rw [if_neg c9] at H
   exact absurd H zq53
 ·rw [if_neg c4] at H
  have c4b0 : (t343 == 0) = false := beq_eq_false_iff_ne.mpr c4
  have c4b1 : (t343 != 0) = true := bne_iff_ne.mpr c4
  by_cases c29 : t343 = 1
  ·rw [if_pos c29] at H
   have c29b0 : (t343 == 1) = true := beq_iff_eq.mpr c29
   have c29b1 : (t343 != 1) = false := bne_eq_false_iff_eq.mpr c29
   clear c29
   have H' := zA H
   clear H
   go_enter Try.func139, Try.ntmps139
   go_wp2_with (first | ((with_reducible refine gate_callee (f := 130) rfl ?_); refine goesL_ (some 6) rfl rfl Try.func130 (by kernel_rfl) rfl #[.pointer (some ⟨g, 0, none⟩)] rfl zq1 ?_; (with_reducible refine (spec_l8Draw.calls k g s0_0 s0_1 s0_2 t338 t341 t342 w0 _ ?side1 ?side2 A2.out).mono ?_); (case side1 => repeat (first | (with_reducible first | exact HI0.out | apply IsS170.alloc | apply IsS170.drewN | apply IsS170.drew | apply IsS170.set_1 | apply IsS170.set_2) | exact HI0.out)); (case side2 => repeat (first | (with_reducible first | exact HB.out | apply below_alloc | apply pw_below_drewN | apply below_drew1 | refine below_set ?_ (IsS170.ge HI0.out)) | exact HB.out)); rintro e w30 ⟨v339, rfl, ho0, hi, hb, hk⟩; refine ⟨_, rfl, ?_⟩; have HO340 := zA (Kd.R_lower ho0 (keep_size (w := w) (g := g) (row := none) zq9)); replace HK := zA (KeepBut.trans zq9 hk (.inl rfl)); replace HB := zA (hb); replace HI0 := zA (hi); clear hb hk hi ho0) | ((with_reducible refine gate_callee (f := 131) rfl ?_); refine goesL_ (some 8) rfl rfl Try.func131 (by kernel_rfl) rfl #[.pointer (some ⟨g, 0, none⟩), .int .i64 12] rfl zq1 ?_; (with_reducible refine (spec_l1Below.calls g s0_0 t341 t342 12 t343 t344 t345 w0 _ ?side1 ?side2 A3.out).mono ?_); (case side1 => repeat (first | (with_reducible first | exact HI0.out | apply IsS170.alloc | apply IsS170.drewN | apply IsS170.drew | apply IsS170.set_1 | apply IsS170.set_2) | exact HI0.out)); (case side2 => repeat (first | (with_reducible first | exact HB.out | apply below_alloc | apply pw_below_drewN | apply below_drew1 | refine below_set ?_ (IsS170.ge HI0.out)) | exact HB.out)); rintro e w31 ⟨rfl, hi, hb, hk⟩; refine ⟨_, rfl, ?_⟩; replace HO340 := zA (Kd.R_mono (Kd.R_keep (IsS170.apart (show IsS170 w0 _ g s0_0 t341 t342 from by repeat (first | (with_reducible first | exact HI0.out | apply IsS170.alloc | apply IsS170.drewN | apply IsS170.drew | apply IsS170.set_1 | apply IsS170.set_2) | exact HI0.out)) zq29 zq40) hk (fun _ h => h.2)) (fun _ h => h.1)); replace HK := zA (KeepBut.trans zq9 hk (.inl rfl)); replace HB := zA (hb); replace HI0 := zA (hi); clear hb hk hi))
   go_loopg [3, 4] k (fun kq v3 v4 w' => ∃ (x3_1 : List (S49)) (x4_1 : Int) (x1001_1 : Int) (x1002_1 : Int), v4 = .int .i64 x4_1 ∧ Aside0 (spec_l8Any.l0 kq x3_1 x4_1 s0_0 x1001_1 x1002_1 = some (r1, r2, r3)) ∧ Aside0 (kq ≤ k) ∧ Aside0 (Kd.R k49 49 w' w.heap.size (fun _ => True) v3 x3_1) ∧ Aside0 (IsS170 w0 w' g s0_0 x1001_1 x1002_1) ∧ Aside0 (KeepBut w w' g none) ∧ Aside0 (Below w0.heap.size w0 w'))
   case atStart => exact ⟨(t338), (0), (t344), (t345), zq15, H', ⟨Nat.le_refl _⟩, ⟨by (with_reducible repeat (first | apply Kd.R_alloc | apply Kd.R_drewN | apply Kd.R_drew)); exact HO340.out⟩, ⟨by repeat (first | (with_reducible first | exact HI0.out | apply IsS170.alloc | apply IsS170.drewN | apply IsS170.drew | apply IsS170.set_1 | apply IsS170.set_2) | exact HI0.out)⟩, ⟨by repeat (first | (with_reducible first | exact HK.out | apply KeepBut.set_ | apply keep_drewN | apply keep_drew | apply keep_alloc) | exact HK.out)⟩, ⟨by repeat (first | (with_reducible first | exact HB.out | apply below_alloc | apply pw_below_drewN | apply below_drew1 | refine below_set ?_ (IsS170.ge HI0.out)) | exact HB.out)⟩⟩
   case round =>
    clear H'
    try clear c1
    try clear c2
    try clear p2
    try clear c4
    try clear c4b0
    try clear c4b1
    try clear c9
    try clear c13
    try clear c14
    try clear c29
    try clear c29b0
    try clear c29b1
    obtain ⟨x3_1, x4_1, x1001_1, x1002_1, rfl, HA, HK1, HO_3, HI0, HK, HB⟩ := hrel
    cases gk with
    | zero => exact absurd HA.out (by simp [spec_l8Any.l0])
    | succ k1 =>
     have H := HA.out
     clear HA
     simp only [spec_l8Any.l0] at H
     obtain ⟨⟨t373, t374, t375⟩, A32, H⟩ := zB H
     try dsimp only at H
     by_cases c33 : x4_1 < (wrap64 (11 + t373))
     ·rw [if_pos c33] at H
      have c33b0 : decide (x4_1 < (wrap64 (11 + t373))) = true := decide_eq_true c33
      clear c33
      by_cases c34 : x3_1.length < 3518437208883
      ·rw [if_pos c34] at H
       have LMc34 := zA c34
       clear c34
       obtain ⟨y376, hy376⟩ : ∃ y_ : List (S49), y_ = (x3_1 ++ [(⟨50, wrap64 (100 + x4_1), 1, 0, false⟩ : S49)]) := ⟨_, rfl⟩
       replace H : (spec_l8Any.l0 k1 y376 (wrap64 (x4_1 + 1)) s0_0 t374 t375) = some (r1, r2, r3) := by first | (rw [hy376]; with_reducible exact H) | (have H2_ := (Option.bind_some _ _).symm.trans H; rw [hy376]; with_reducible exact H2_) | (have H2_ := (Option.bind_some _ _).symm.trans H; with_reducible exact H2_) | with_reducible exact H | (rw [hy376]; exact H) | exact H
       have Ny376 := zA hy376
       clear hy376
       have H' := zA H
       clear H
       go_wp2_with (first | ((with_reducible refine gate_callee (f := 131) rfl ?_); refine goesL_ (some 31) rfl rfl Try.func131 (by kernel_rfl) rfl #[.pointer (some ⟨g, 0, none⟩), .int .i64 3] rfl zq1 ?_; (with_reducible refine (spec_l1Below.calls g s0_0 x1001_1 x1002_1 3 t373 t374 t375 w0 _ ?side1 ?side2 A32.out).mono ?_); (case side1 => repeat (first | (with_reducible first | exact HI0.out | apply IsS170.alloc | apply IsS170.drewN | apply IsS170.drew | apply IsS170.set_1 | apply IsS170.set_2) | exact HI0.out)); (case side2 => repeat (first | (with_reducible first | exact HB.out | apply below_alloc | apply pw_below_drewN | apply below_drew1 | refine below_set ?_ (IsS170.ge HI0.out)) | exact HB.out)); rintro e w35 ⟨rfl, hi, hb, hk⟩; refine ⟨_, rfl, ?_⟩; replace HO_3 := zA (Kd.R_mono (Kd.R_keep (IsS170.apart (show IsS170 w0 _ g s0_0 x1001_1 x1002_1 from by repeat (first | (with_reducible first | exact HI0.out | apply IsS170.alloc | apply IsS170.drewN | apply IsS170.drew | apply IsS170.set_1 | apply IsS170.set_2) | exact HI0.out)) zq23 zq40) hk (fun _ h => h.2)) (fun _ h => h.1)); replace HK := zA (KeepBut.trans zq9 hk (.inl rfl)); replace HB := zA (hb); replace HI0 := zA (hi); clear hb hk hi) | ((with_reducible refine gate_builtin (b := .append) (xs := #[.tmp 36, .tmp 40]) rfl ?_); at_builtin; refine Kd.R_append k49 w.heap.size rfl (.tmp 36) (.tmp 40) 43 49 (.agg #[(.int .i64 0), (.int .i64 0), (.int .i64 0), (.int .i64 0), (.bool false)]) 40 rfl Try.underlying43 info49 rfl zq40 zq66 u3 x3_1 (⟨50, wrap64 (100 + x4_1), 1, 0, false⟩ : S49) [.int .i64 50, .int .i64 (wrap64 (100 + x4_1)), .int .i64 1, .int .i64 0, .bool false] (fun _ => True) (fun _ => False) rfl rfl ?aP (fun _ hk => hk.elim) ?aF ?aO (Below.refl _ _) ?aS ?aL ?_; (case aP => exact k49_mkM _ _ _ (⟨50, wrap64 (100 + x4_1), 1, 0, false⟩ : S49)); (case aF => exact (fun _ _ => trivial)); (case aO => exact zq23); (case aS => exact (keep_size (w := w) (g := g) (row := none) zq9)); (case aL => have := LMc34.out; omega); intro v377 w36 ho hb hg hat; rw [← Ny376.out] at ho; replace HB := zA (below_weaken zq27 HL.out hb); replace HI0 := zA (IsS170.grown zq26 hg (IsS170.own_ne HI0.out HO_3.out zq40)); replace HK := zA (KeepBut.trans zq9 (KeepBut.of_grown hg g) (Kd.R_base2 HO_3.out)); have HO378 := zA (ho); clear HO_3; clear ho hb hg hat))
       go_roundg k1
       case measure => have := HK1.out; omega
       case rel => exact ⟨(y376), (wrap64 (x4_1 + 1)), (t374), (t375), zq15, H', ⟨by have := HK1.out; omega⟩, ⟨by (with_reducible repeat (first | apply Kd.R_alloc | apply Kd.R_drewN | apply Kd.R_drew)); exact HO378.out⟩, ⟨by repeat (first | (with_reducible first | exact HI0.out | apply IsS170.alloc | apply IsS170.drewN | apply IsS170.drew | apply IsS170.set_1 | apply IsS170.set_2) | exact HI0.out)⟩, ⟨by repeat (first | (with_reducible first | exact HK.out | apply KeepBut.set_ | apply keep_drewN | apply keep_drew | apply keep_alloc) | exact HK.out)⟩, ⟨by repeat (first | (with_reducible first | exact HB.out | apply below_alloc | apply pw_below_drewN | apply below_drew1 | refine below_set ?_ (IsS170.ge HI0.out)) | exact HB.out)⟩⟩
      ·rw [if_neg c34] at H
       exact absurd H zq53
     ·rw [if_neg c33] at H
      have c33b0 : decide (x4_1 < (wrap64 (11 + t373))) = false := decide_eq_false c33
      clear c33
      simp only [Option.some.injEq, Prod.mk.injEq] at H
      obtain ⟨rfl, rfl, rfl⟩ := H
      go_wp2_with (first | ((with_reducible refine gate_callee (f := 131) rfl ?_); refine goesL_ (some 31) rfl rfl Try.func131 (by kernel_rfl) rfl #[.pointer (some ⟨g, 0, none⟩), .int .i64 3] rfl zq1 ?_; (with_reducible refine (spec_l1Below.calls g s0_0 x1001_1 x1002_1 3 t373 t374 t375 w0 _ ?side1 ?side2 A32.out).mono ?_); (case side1 => repeat (first | (with_reducible first | exact HI0.out | apply IsS170.alloc | apply IsS170.drewN | apply IsS170.drew | apply IsS170.set_1 | apply IsS170.set_2) | exact HI0.out)); (case side2 => repeat (first | (with_reducible first | exact HB.out | apply below_alloc | apply pw_below_drewN | apply below_drew1 | refine below_set ?_ (IsS170.ge HI0.out)) | exact HB.out)); rintro e w37 ⟨rfl, hi, hb, hk⟩; refine ⟨_, rfl, ?_⟩; replace HO_3 := zA (Kd.R_mono (Kd.R_keep (IsS170.apart (show IsS170 w0 _ g s0_0 x1001_1 x1002_1 from by repeat (first | (with_reducible first | exact HI0.out | apply IsS170.alloc | apply IsS170.drewN | apply IsS170.drew | apply IsS170.set_1 | apply IsS170.set_2) | exact HI0.out)) zq23 zq40) hk (fun _ h => h.2)) (fun _ h => h.1)); replace HK := zA (KeepBut.trans zq9 hk (.inl rfl)); replace HB := zA (hb); replace HI0 := zA (hi); clear hb hk hi))
      go_ret
      exact ⟨_, by first | rfl | (simp [errW_none, errW_some] <;> rfl) | (simp [*, errW_none, errW_some] <;> rfl), by (with_reducible repeat (first | apply Kd.R_alloc | apply Kd.R_drewN | apply Kd.R_drew)); exact HO_3.out, by repeat (first | (with_reducible first | exact HI0.out | apply IsS170.alloc | apply IsS170.drewN | apply IsS170.drew | apply IsS170.set_1 | apply IsS170.set_2) | exact HI0.out), by repeat (first | (with_reducible first | exact HB.out | apply below_alloc | apply pw_below_drewN | apply below_drew1 | refine below_set ?_ (IsS170.ge HI0.out)) | exact HB.out), by repeat (first | (with_reducible first | exact HK.out | apply KeepBut.set_ | apply keep_drewN | apply keep_drew | apply keep_alloc) | exact HK.out)⟩
  ·rw [if_neg c29] at H
   have c29b0 : (t343 == 1) = false := beq_eq_false_iff_ne.mpr c29
   have c29b1 : (t343 != 1) = true := bne_iff_ne.mpr c29
   simp only [Option.some.injEq, Prod.mk.injEq] at H
   obtain ⟨rfl, rfl, rfl⟩ := H
   go_enter Try.func139, Try.ntmps139
   go_wp2_with (first | ((with_reducible refine gate_callee (f := 130) rfl ?_); refine goesL_ (some 6) rfl rfl Try.func130 (by kernel_rfl) rfl #[.pointer (some ⟨g, 0, none⟩)] rfl zq1 ?_; (with_reducible refine (spec_l8Draw.calls k g s0_0 s0_1 s0_2 t338 t341 t342 w0 _ ?side1 ?side2 A2.out).mono ?_); (case side1 => repeat (first | (with_reducible first | exact HI0.out | apply IsS170.alloc | apply IsS170.drewN | apply IsS170.drew | apply IsS170.set_1 | apply IsS170.set_2) | exact HI0.out)); (case side2 => repeat (first | (with_reducible first | exact HB.out | apply below_alloc | apply pw_below_drewN | apply below_drew1 | refine below_set ?_ (IsS170.ge HI0.out)) | exact HB.out)); rintro e w38 ⟨v339, rfl, ho0, hi, hb, hk⟩; refine ⟨_, rfl, ?_⟩; have HO340 := zA (Kd.R_lower ho0 (keep_size (w := w) (g := g) (row := none) zq9)); replace HK := zA (KeepBut.trans zq9 hk (.inl rfl)); replace HB := zA (hb); replace HI0 := zA (hi); clear hb hk hi ho0) | ((with_reducible refine gate_callee (f := 131) rfl ?_); refine goesL_ (some 8) rfl rfl Try.func131 (by kernel_rfl) rfl #[.pointer (some ⟨g, 0, none⟩), .int .i64 12] rfl zq1 ?_; (with_reducible refine (spec_l1Below.calls g s0_0 t341 t342 12 t343 t344 t345 w0 _ ?side1 ?side2 A3.out).mono ?_); (case side1 => repeat (first | (with_reducible first | exact HI0.out | apply IsS170.alloc | apply IsS170.drewN | apply IsS170.drew | apply IsS170.set_1 | apply IsS170.set_2) | exact HI0.out)); (case side2 => repeat (first | (with_reducible first | exact HB.out | apply below_alloc | apply pw_below_drewN | apply below_drew1 | refine below_set ?_ (IsS170.ge HI0.out)) | exact HB.out)); rintro e w39 ⟨rfl, hi, hb, hk⟩; refine ⟨_, rfl, ?_⟩; replace HO340 := zA (Kd.R_mono (Kd.R_keep (IsS170.apart (show IsS170 w0 _ g s0_0 t341 t342 from by repeat (first | (with_reducible first | exact HI0.out | apply IsS170.alloc | apply IsS170.drewN | apply IsS170.drew | apply IsS170.set_1 | apply IsS170.set_2) | exact HI0.out)) zq29 zq40) hk (fun _ h => h.2)) (fun _ h => h.1)); replace HK := zA (KeepBut.trans zq9 hk (.inl rfl)); replace HB := zA (hb); replace HI0 := zA (hi); clear hb hk hi))
   go_ret
   exact ⟨_, by first | rfl | (simp [errW_none, errW_some] <;> rfl) | (simp [*, errW_none, errW_some] <;> rfl), by (with_reducible repeat (first | apply Kd.R_alloc | apply Kd.R_drewN | apply Kd.R_drew)); exact HO340.out, by repeat (first | (with_reducible first | exact HI0.out | apply IsS170.alloc | apply IsS170.drewN | apply IsS170.drew | apply IsS170.set_1 | apply IsS170.set_2) | exact HI0.out), by repeat (first | (with_reducible first | exact HB.out | apply below_alloc | apply pw_below_drewN | apply below_drew1 | refine below_set ?_ (IsS170.ge HI0.out)) | exact HB.out), by repeat (first | (with_reducible first | exact HK.out | apply KeepBut.set_ | apply keep_drewN | apply keep_drew | apply keep_alloc) | exact HK.out)⟩

/-! ### spec_DrawLearn: function 49 -/
def spec_DrawLearn.f (k : Nat) (l0 : List Int) : Option ((List (S49)) × Int × Int × Int) := (spec_l1New.f k l0).bind fun bt379 => ((spec_l8Any.f k bt379.1 bt379.2.1 bt379.2.2).bind fun bt383 => ((spec_l1Int.f bt379.1 bt383.2.1 bt383.2.2 (([1, 2, 3, 0, 100] : List Int))).bind fun bt391 => ((spec_l1Int.f bt379.1 bt391.2.1 bt391.2.2 (([11, 12, 15, 0, 10000] : List Int))).bind fun bt397 => ((spec_l1Int.f bt379.1 bt397.2.1 bt397.2.2 (([0, 1, 7, 8, (-1)] : List Int))).bind fun bt403 => (some (bt383.1, bt391.1, bt397.1, bt403.1))))))
theorem spec_DrawLearn.mono : ∀ a0 k, LeO (spec_DrawLearn.f k a0) (spec_DrawLearn.f (k + 1) a0) := by
 intro a0 k
 unfold spec_DrawLearn.f
 repeat' first
   | (with_reducible exact spec_l1New.mono _ _)
   | (with_reducible exact spec_l8Any.mono _ _ _ _)
   | (with_reducible exact LeO.refl _)
   | (with_reducible exact LeO.none _)
   | (with_reducible refine LeO.ite ?_ ?_)
   | (with_reducible refine LeO.bind ?_ (fun _ => ?_))
   | exact spec_l1New.mono _ _
   | exact spec_l8Any.mono _ _ _ _
   | exact LeO.none _
   | refine LeO.ite ?_ ?_
   | refine LeO.bind ?_ (fun _ => ?_)
set_option maxHeartbeats 8000000 in
set_option maxRecDepth 100000 in
theorem spec_DrawLearn.calls (k : Nat) (A0 : Option Addr) (c0 : Nat) (l0 : List Int) (r1 : List (S49)) (r2 : Int) (r3 : Int) (r4 : Int) (w : World) (hr0 : Kd.C (Kd.int .u8) w A0 l0.length l0) (hc0 : l0.length ≤ c0) (h : spec_DrawLearn.f k l0 = some (r1, r2, r3, r4)) :
  Calls Try.prog 49 #[.slice A0 l0.length c0] w fun e w' => ∃ v0_ : Value, e = .returned (.tuple #[v0_, .int .i64 r2, .int .i64 r3, .int .i64 r4]) ∧ Kd.R k49 49 w' w.heap.size (fun _ => True) v0_ r1 ∧ Below w.heap.size w w' := by
 have HR0 := zA hr0
 have HC0 := zA hc0
 clear hr0 hc0
 have HB := zA (Below.refl w.heap.size w)
 have H : ((spec_l1New.f k l0).bind fun bt379 => ((spec_l8Any.f k bt379.1 bt379.2.1 bt379.2.2).bind fun bt383 => ((spec_l1Int.f bt379.1 bt383.2.1 bt383.2.2 (([1, 2, 3, 0, 100] : List Int))).bind fun bt391 => ((spec_l1Int.f bt379.1 bt391.2.1 bt391.2.2 (([11, 12, 15, 0, 10000] : List Int))).bind fun bt397 => ((spec_l1Int.f bt379.1 bt397.2.1 bt397.2.2 (([0, 1, 7, 8, (-1)] : List Int))).bind fun bt403 => (some (bt383.1, bt391.1, bt397.1, bt403.1))))))) = some (r1, r2, r3, r4) := h
 clear h
 obtain ⟨⟨t379, t380, t381⟩, A2, H⟩ := zB H
 try dsimp only at H
 obtain ⟨⟨t383, t386, t387⟩, A3, H⟩ := zB H
 try dsimp only at H
 obtain ⟨y388, hy388⟩ : ∃ y_ : List Int, y_ = (([1, 2, 3, 0, 100] : List Int)) := ⟨_, rfl⟩
 replace H : ((spec_l1Int.f t379 t386 t387 y388).bind fun bt391 => ((spec_l1Int.f t379 bt391.2.1 bt391.2.2 (([11, 12, 15, 0, 10000] : List Int))).bind fun bt397 => ((spec_l1Int.f t379 bt397.2.1 bt397.2.2 (([0, 1, 7, 8, (-1)] : List Int))).bind fun bt403 => (some (t383, bt391.1, bt397.1, bt403.1))))) = some (r1, r2, r3, r4) := by first | (rw [hy388]; with_reducible exact H) | (have H2_ := (Option.bind_some _ _).symm.trans H; rw [hy388]; with_reducible exact H2_) | (have H2_ := (Option.bind_some _ _).symm.trans H; with_reducible exact H2_) | with_reducible exact H | (rw [hy388]; exact H) | exact H
 have Ny388 := zA hy388
 clear hy388
 obtain ⟨⟨t391, t392, t393⟩, A4, H⟩ := zB H
 try dsimp only at H
 obtain ⟨y394, hy394⟩ : ∃ y_ : List Int, y_ = (([11, 12, 15, 0, 10000] : List Int)) := ⟨_, rfl⟩
 replace H : ((spec_l1Int.f t379 t392 t393 y394).bind fun bt397 => ((spec_l1Int.f t379 bt397.2.1 bt397.2.2 (([0, 1, 7, 8, (-1)] : List Int))).bind fun bt403 => (some (t383, t391, bt397.1, bt403.1)))) = some (r1, r2, r3, r4) := by first | (rw [hy394]; with_reducible exact H) | (have H2_ := (Option.bind_some _ _).symm.trans H; rw [hy394]; with_reducible exact H2_) | (have H2_ := (Option.bind_some _ _).symm.trans H; with_reducible exact H2_) | with_reducible exact H | (rw [hy394]; exact H) | exact H
 have Ny394 := zA hy394
 clear hy394
 obtain ⟨⟨t397, t398, t399⟩, A5, H⟩ := zB H
 try dsimp only at H
 obtain ⟨y400, hy400⟩ : ∃ y_ : List Int, y_ = (([0, 1, 7, 8, (-1)] : List Int)) := ⟨_, rfl⟩
 replace H : ((spec_l1Int.f t379 t398 t399 y400).bind fun bt403 => (some (t383, t391, t397, bt403.1))) = some (r1, r2, r3, r4) := by first | (rw [hy400]; with_reducible exact H) | (have H2_ := (Option.bind_some _ _).symm.trans H; rw [hy400]; with_reducible exact H2_) | (have H2_ := (Option.bind_some _ _).symm.trans H; with_reducible exact H2_) | with_reducible exact H | (rw [hy400]; exact H) | exact H
 have Ny400 := zA hy400
 clear hy400
 obtain ⟨⟨t403, t404, t405⟩, A6, H⟩ := zB H
 try dsimp only at H
 simp only [Option.some.injEq, Prod.mk.injEq] at H
 obtain ⟨rfl, rfl, rfl, rfl⟩ := H
 go_enter Try.func49, Try.ntmps49
 go_wp2_with (first | ((with_reducible refine gate_callee (f := 104) rfl ?_); refine goesL_ (some 8) rfl rfl Try.func104 (by kernel_rfl) rfl #[.slice A0 l0.length c0] rfl zq1 ?_; (with_reducible refine (spec_l1New.calls k _ _ l0 t379 t380 t381 w _ ?side1 ?side2 ?side3 A2.out).mono ?_); (case side1 => repeat (first | (with_reducible first | exact HB.out | apply below_alloc | apply pw_below_drewN | apply below_drew1) | exact HB.out)); (case side2 => exact HR0.out); (case side3 => exact HC0.out); rintro e w7 ⟨g382, rfl, hi, hb, hb2⟩; refine ⟨_, rfl, ?_⟩; replace HB := zA (hb); have HI382 := zA (hi); clear hb hb2 hi) | ((with_reducible refine gate_callee (f := 139) rfl ?_); refine goesL_ (some 10) rfl rfl Try.func139 (by kernel_rfl) rfl #[.pointer (some ⟨g382, 0, none⟩)] rfl zq1 ?_; (with_reducible refine (spec_l8Any.calls k g382 t379 t380 t381 t383 t386 t387 w _ ?side1 ?side2 A3.out).mono ?_); (case side1 => repeat (first | (with_reducible first | exact HI382.out | apply IsS170.alloc | apply IsS170.drewN | apply IsS170.drew | apply IsS170.set_1 | apply IsS170.set_2) | exact HI382.out)); (case side2 => repeat (first | (with_reducible first | exact HB.out | apply below_alloc | apply pw_below_drewN | apply below_drew1 | refine below_set ?_ (IsS170.ge HI382.out)) | exact HB.out)); rintro e w8 ⟨v384, rfl, ho0, hi, hb, hk⟩; refine ⟨_, rfl, ?_⟩; have HO385 := zA (Kd.R_lower ho0 (below_size zq38)); replace HB := zA (hb); replace HI382 := zA (hi); clear hb hk hi ho0) | ((with_reducible refine gate_dst (N := 12) rfl ?_); refine Kd.R_lit (Kd.int .i64) _ 3 ?hg (N := 12) ?hd (xs := ([1, 2, 3, 0, 100] : List Int)) (inner := [.int .i64 1, .int .i64 2, .int .i64 3, .int .i64 0, .int .i64 100]) (ok := fun _ => True) (okp := fun _ => True) ?hr ?hp (fun _ hk => hk) trivial (Below.refl _ _) (Nat.le_refl _) zq53 ?_; (case hd => rfl); (case hg => rfl); (case hr => first | (go_simp; done) | (go_simp; rfl)); (case hp => exact (Reps.one (show Kd.M (Kd.int .i64) _ _ _ 1 [.int .i64 1] from rfl) (Reps.one (show Kd.M (Kd.int .i64) _ _ _ 2 [.int .i64 2] from rfl) (Reps.one (show Kd.M (Kd.int .i64) _ _ _ 3 [.int .i64 3] from rfl) (Reps.one (show Kd.M (Kd.int .i64) _ _ _ 0 [.int .i64 0] from rfl) (Reps.one (show Kd.M (Kd.int .i64) _ _ _ 100 [.int .i64 100] from rfl) (Reps.none _ _))))))); intro v389 w9 ho10 hb hg_ hnew_; clear hg_ hnew_; (first | rw [← Ny388.out] at ho10 | (simp only [Int.reduceToNat] at ho10; rw [← Ny388.out] at ho10)); replace HO385 := zA (Kd.R_below zq46 hb); have HO390 := zA (Kd.R_lower ho10 (below_size zq38)); replace HB := zA (below_step zq38 hb); replace HI382 := zA (IsS170.below zq58 hb); clear hb ho10; obtain ⟨Ao11, co11, eo11⟩ := Kd.R_slice HO390.out; subst eo11) | ((with_reducible refine gate_callee (f := 140) rfl ?_); refine goesL_ (some 13) rfl rfl Try.func140 (by kernel_rfl) rfl #[.pointer (some ⟨g382, 0, none⟩), .slice Ao11 y388.length co11] rfl zq1 ?_; (with_reducible refine (spec_l1Int.calls g382 t379 t386 t387 _ _ y388 t391 t392 t393 w _ ?side1 ?side2 ?side3 ?side4 ?side5 A4.out).mono ?_); (case side1 => repeat (first | (with_reducible first | exact HI382.out | apply IsS170.alloc | apply IsS170.drewN | apply IsS170.drew | apply IsS170.set_1 | apply IsS170.set_2) | exact HI382.out)); (case side2 => repeat (first | (with_reducible first | exact HB.out | apply below_alloc | apply pw_below_drewN | apply below_drew1 | refine below_set ?_ (IsS170.ge HI382.out)) | exact HB.out)); (case side3 => repeat (first | exact (Kd.R_reads' HO390.out).2.2 | (with_reducible refine Kd.C_alloc ?_ _) | (with_reducible refine Kd.C_drewN ?_ _) | (with_reducible refine Kd.C_drew ?_))); (case side4 => exact (Kd.R_reads' HO390.out).2.1); (case side5 => exact far_slice (IsS170.own_ne HI382.out HO390.out zq40)); rintro e w12 ⟨rfl, hi, hb, hk⟩; refine ⟨_, rfl, ?_⟩; replace HO385 := zA (Kd.R_mono (Kd.R_keep (IsS170.apart (show IsS170 w _ g382 t379 t386 t387 from by repeat (first | (with_reducible first | exact HI382.out | apply IsS170.alloc | apply IsS170.drewN | apply IsS170.drew | apply IsS170.set_1 | apply IsS170.set_2) | exact HI382.out)) zq46 zq40) hk (fun _ h => h.2)) (fun _ h => h.1)); replace HO390 := zA (Kd.R_mono (Kd.R_keep (IsS170.apart (show IsS170 w _ g382 t379 t386 t387 from by repeat (first | (with_reducible first | exact HI382.out | apply IsS170.alloc | apply IsS170.drewN | apply IsS170.drew | apply IsS170.set_1 | apply IsS170.set_2) | exact HI382.out)) zq44 zq40) hk (fun _ h => h.2)) (fun _ h => h.1)); replace HB := zA (hb); replace HI382 := zA (hi); clear hb hk hi) | ((with_reducible refine gate_dst (N := 15) rfl ?_); refine Kd.R_lit (Kd.int .i64) _ 3 ?hg (N := 15) ?hd (xs := ([11, 12, 15, 0, 10000] : List Int)) (inner := [.int .i64 11, .int .i64 12, .int .i64 15, .int .i64 0, .int .i64 10000]) (ok := fun _ => True) (okp := fun _ => True) ?hr ?hp (fun _ hk => hk) trivial (Below.refl _ _) (Nat.le_refl _) zq53 ?_; (case hd => rfl); (case hg => rfl); (case hr => first | (go_simp; done) | (go_simp; rfl)); (case hp => exact (Reps.one (show Kd.M (Kd.int .i64) _ _ _ 11 [.int .i64 11] from rfl) (Reps.one (show Kd.M (Kd.int .i64) _ _ _ 12 [.int .i64 12] from rfl) (Reps.one (show Kd.M (Kd.int .i64) _ _ _ 15 [.int .i64 15] from rfl) (Reps.one (show Kd.M (Kd.int .i64) _ _ _ 0 [.int .i64 0] from rfl) (Reps.one (show Kd.M (Kd.int .i64) _ _ _ 10000 [.int .i64 10000] from rfl) (Reps.none _ _))))))); intro v395 w13 ho14 hb hg_ hnew_; clear hg_ hnew_; (first | rw [← Ny394.out] at ho14 | (simp only [Int.reduceToNat] at ho14; rw [← Ny394.out] at ho14)); replace HO385 := zA (Kd.R_below zq46 hb); have HO396 := zA (Kd.R_lower (Kd.R_new' ho14 (Kd.R_lt zq44)) (below_size zq38)); replace HO390 := zA (Kd.R_elder' zq44 (Kd.R_base ho14) hb); replace HB := zA (below_step zq38 hb); replace HI382 := zA (IsS170.below zq58 hb); clear hb ho14; obtain ⟨Ao15, co15, eo15⟩ := Kd.R_slice HO396.out; subst eo15) | ((with_reducible refine gate_callee (f := 140) rfl ?_); refine goesL_ (some 16) rfl rfl Try.func140 (by kernel_rfl) rfl #[.pointer (some ⟨g382, 0, none⟩), .slice Ao15 y394.length co15] rfl zq1 ?_; (with_reducible refine (spec_l1Int.calls g382 t379 t392 t393 _ _ y394 t397 t398 t399 w _ ?side1 ?side2 ?side3 ?side4 ?side5 A5.out).mono ?_); (case side1 => repeat (first | (with_reducible first | exact HI382.out | apply IsS170.alloc | apply IsS170.drewN | apply IsS170.drew | apply IsS170.set_1 | apply IsS170.set_2) | exact HI382.out)); (case side2 => repeat (first | (with_reducible first | exact HB.out | apply below_alloc | apply pw_below_drewN | apply below_drew1 | refine below_set ?_ (IsS170.ge HI382.out)) | exact HB.out)); (case side3 => repeat (first | exact (Kd.R_reads' HO396.out).2.2 | (with_reducible refine Kd.C_alloc ?_ _) | (with_reducible refine Kd.C_drewN ?_ _) | (with_reducible refine Kd.C_drew ?_))); (case side4 => exact (Kd.R_reads' HO396.out).2.1); (case side5 => exact far_slice (IsS170.own_ne HI382.out HO396.out zq40)); rintro e w16 ⟨rfl, hi, hb, hk⟩; refine ⟨_, rfl, ?_⟩; replace HO385 := zA (Kd.R_mono (Kd.R_keep (IsS170.apart (show IsS170 w _ g382 t379 t392 t393 from by repeat (first | (with_reducible first | exact HI382.out | apply IsS170.alloc | apply IsS170.drewN | apply IsS170.drew | apply IsS170.set_1 | apply IsS170.set_2) | exact HI382.out)) zq46 zq40) hk (fun _ h => h.2)) (fun _ h => h.1)); replace HO390 := zA (Kd.R_mono (Kd.R_keep (IsS170.apart (show IsS170 w _ g382 t379 t392 t393 from by repeat (first | (with_reducible first | exact HI382.out | apply IsS170.alloc | apply IsS170.drewN | apply IsS170.drew | apply IsS170.set_1 | apply IsS170.set_2) | exact HI382.out)) zq44 zq40) hk (fun _ h => h.2)) (fun _ h => h.1)); replace HO396 := zA (Kd.R_mono (Kd.R_keep (IsS170.apart (show IsS170 w _ g382 t379 t392 t393 from by repeat (first | (with_reducible first | exact HI382.out | apply IsS170.alloc | apply IsS170.drewN | apply IsS170.drew | apply IsS170.set_1 | apply IsS170.set_2) | exact HI382.out)) zq63 zq40) hk (fun _ h => h.2)) (fun _ h => h.1)); replace HB := zA (hb); replace HI382 := zA (hi); clear hb hk hi) | ((with_reducible refine gate_dst (N := 18) rfl ?_); refine Kd.R_lit (Kd.int .i64) _ 3 ?hg (N := 18) ?hd (xs := ([0, 1, 7, 8, (-1)] : List Int)) (inner := [.int .i64 0, .int .i64 1, .int .i64 7, .int .i64 8, .int .i64 (-1)]) (ok := fun _ => True) (okp := fun _ => True) ?hr ?hp (fun _ hk => hk) trivial (Below.refl _ _) (Nat.le_refl _) zq53 ?_; (case hd => rfl); (case hg => rfl); (case hr => first | (go_simp; done) | (go_simp; rfl)); (case hp => exact (Reps.one (show Kd.M (Kd.int .i64) _ _ _ 0 [.int .i64 0] from rfl) (Reps.one (show Kd.M (Kd.int .i64) _ _ _ 1 [.int .i64 1] from rfl) (Reps.one (show Kd.M (Kd.int .i64) _ _ _ 7 [.int .i64 7] from rfl) (Reps.one (show Kd.M (Kd.int .i64) _ _ _ 8 [.int .i64 8] from rfl) (Reps.one (show Kd.M (Kd.int .i64) _ _ _ (-1) [.int .i64 (-1)] from rfl) (Reps.none _ _))))))); intro v401 w17 ho18 hb hg_ hnew_; clear hg_ hnew_; (first | rw [← Ny400.out] at ho18 | (simp only [Int.reduceToNat] at ho18; rw [← Ny400.out] at ho18)); replace HO385 := zA (Kd.R_below zq46 hb); have HO402 := zA (Kd.R_lower (Kd.R_new' (Kd.R_new' ho18 (Kd.R_lt zq44)) (Kd.R_lt zq63)) (below_size zq38)); replace HO390 := zA (Kd.R_elder' zq44 (Kd.R_base ho18) hb); replace HO396 := zA (Kd.R_elder' zq63 (Kd.R_base ho18) hb); replace HB := zA (below_step zq38 hb); replace HI382 := zA (IsS170.below zq58 hb); clear hb ho18; obtain ⟨Ao19, co19, eo19⟩ := Kd.R_slice HO402.out; subst eo19) | ((with_reducible refine gate_callee (f := 140) rfl ?_); refine goesL_ (some 19) rfl rfl Try.func140 (by kernel_rfl) rfl #[.pointer (some ⟨g382, 0, none⟩), .slice Ao19 y400.length co19] rfl zq1 ?_; (with_reducible refine (spec_l1Int.calls g382 t379 t398 t399 _ _ y400 t403 t404 t405 w _ ?side1 ?side2 ?side3 ?side4 ?side5 A6.out).mono ?_); (case side1 => repeat (first | (with_reducible first | exact HI382.out | apply IsS170.alloc | apply IsS170.drewN | apply IsS170.drew | apply IsS170.set_1 | apply IsS170.set_2) | exact HI382.out)); (case side2 => repeat (first | (with_reducible first | exact HB.out | apply below_alloc | apply pw_below_drewN | apply below_drew1 | refine below_set ?_ (IsS170.ge HI382.out)) | exact HB.out)); (case side3 => repeat (first | exact (Kd.R_reads' HO402.out).2.2 | (with_reducible refine Kd.C_alloc ?_ _) | (with_reducible refine Kd.C_drewN ?_ _) | (with_reducible refine Kd.C_drew ?_))); (case side4 => exact (Kd.R_reads' HO402.out).2.1); (case side5 => exact far_slice (IsS170.own_ne HI382.out HO402.out zq40)); rintro e w20 ⟨rfl, hi, hb, hk⟩; refine ⟨_, rfl, ?_⟩; replace HO385 := zA (Kd.R_mono (Kd.R_keep (IsS170.apart (show IsS170 w _ g382 t379 t398 t399 from by repeat (first | (with_reducible first | exact HI382.out | apply IsS170.alloc | apply IsS170.drewN | apply IsS170.drew | apply IsS170.set_1 | apply IsS170.set_2) | exact HI382.out)) zq46 zq40) hk (fun _ h => h.2)) (fun _ h => h.1)); replace HO390 := zA (Kd.R_mono (Kd.R_keep (IsS170.apart (show IsS170 w _ g382 t379 t398 t399 from by repeat (first | (with_reducible first | exact HI382.out | apply IsS170.alloc | apply IsS170.drewN | apply IsS170.drew | apply IsS170.set_1 | apply IsS170.set_2) | exact HI382.out)) zq44 zq40) hk (fun _ h => h.2)) (fun _ h => h.1)); replace HO396 := zA (Kd.R_mono (Kd.R_keep (IsS170.apart (show IsS170 w _ g382 t379 t398 t399 from by repeat (first | (with_reducible first | exact HI382.out | apply IsS170.alloc | apply IsS170.drewN | apply IsS170.drew | apply IsS170.set_1 | apply IsS170.set_2) | exact HI382.out)) zq63 zq40) hk (fun _ h => h.2)) (fun _ h => h.1)); replace HO402 := zA (Kd.R_mono (Kd.R_keep (IsS170.apart (show IsS170 w _ g382 t379 t398 t399 from by repeat (first | (with_reducible first | exact HI382.out | apply IsS170.alloc | apply IsS170.drewN | apply IsS170.drew | apply IsS170.set_1 | apply IsS170.set_2) | exact HI382.out)) (by (with_reducible repeat (first | apply Kd.R_alloc | apply Kd.R_drewN | apply Kd.R_drew)); exact HO402.out) zq40) hk (fun _ h => h.2)) (fun _ h => h.1)); replace HB := zA (hb); replace HI382 := zA (hi); clear hb hk hi))
 refine bodyPost_ret (results_list (rs := [.tmp 2, .tmp 3, .tmp 4, .tmp 5]) rfl zq53 (.tmp (.tmp (.tmp (.tmp .nil))))) rfl ?_
 exact ⟨_, by first | rfl | (simp [errW_none, errW_some] <;> rfl) | (simp [*, errW_none, errW_some] <;> rfl), by (with_reducible repeat (first | apply Kd.R_alloc | apply Kd.R_drewN | apply Kd.R_drew)); exact HO385.out, by repeat (first | (with_reducible first | exact HB.out | apply below_alloc | apply pw_below_drewN | apply below_drew1 | refine below_set ?_ (IsS170.ge HI382.out)) | exact HB.out)⟩

/-! ### impl_SetStatic: function 50 -/
def impl_SetStatic.j0 : Nat → List (S49) → Bool → Int → Int → Int → Int → Bool → Option ((List (S49)) × Bool)
 | 0, _, _, _, _, _, _, _ => none
 | k + 1, x0, x22, x407000, x407001, x407002, x407003, x407004 => if x22 = true then ((impl_copyFdb.f x0).bind fun t409 => (some (t409, false))) else ((impl_put.f k x0 x407000 x407001 x407002 x407003 x407004).bind fun bt412 => (some (bt412.1, bt412.2)))
def impl_SetStatic.f (k : Nat) (l0 : List (S49)) (a1 : Int) (a2 : Int) (a3 : Int) : Option ((List (S49)) × Bool) := (impl_FdbOk.f k l0).bind fun t407 => (if t407 = true then ((impl_fentOk.f a1 a2 a3 0 true).bind fun t408 => (impl_SetStatic.j0 k l0 (!t408) a1 a2 a3 0 true)) else (impl_SetStatic.j0 k l0 true a1 a2 a3 0 true))
theorem impl_SetStatic.mono_l : ∀ k, (∀ y0 y1 y2 y3 y4 y5 y6, LeO (impl_SetStatic.j0 k y0 y1 y2 y3 y4 y5 y6) (impl_SetStatic.j0 (k + 1) y0 y1 y2 y3 y4 y5 y6))
 | 0 => fun _ _ _ _ _ _ _ r h => by simp [impl_SetStatic.j0] at h
 | k + 1 => by
  have ih0 := impl_SetStatic.mono_l k
  ·intro y0 y1 y2 y3 y4 y5 y6
   unfold impl_SetStatic.j0
   repeat' first
   | (with_reducible exact ih0 _ _ _ _ _ _ _)
   | (with_reducible exact impl_FdbOk.mono _ _)
   | (with_reducible exact impl_put.mono _ _ _ _ _ _ _)
   | (with_reducible exact LeO.refl _)
   | (with_reducible exact LeO.none _)
   | (with_reducible refine LeO.ite ?_ ?_)
   | (with_reducible refine LeO.bind ?_ (fun _ => ?_))
   | exact ih0 _ _ _ _ _ _ _
   | exact impl_FdbOk.mono _ _
   | exact impl_put.mono _ _ _ _ _ _ _
   | exact LeO.none _
   | refine LeO.ite ?_ ?_
   | refine LeO.bind ?_ (fun _ => ?_)
theorem impl_SetStatic.mono : ∀ a0 a1 a2 a3 k, LeO (impl_SetStatic.f k a0 a1 a2 a3) (impl_SetStatic.f (k + 1) a0 a1 a2 a3) := by
 intro a0 a1 a2 a3 k
 have ih0 := impl_SetStatic.mono_l k
 unfold impl_SetStatic.f
 repeat' first
   | (with_reducible exact ih0 _ _ _ _ _ _ _)
   | (with_reducible exact impl_FdbOk.mono _ _)
   | (with_reducible exact impl_put.mono _ _ _ _ _ _ _)
   | (with_reducible exact LeO.refl _)
   | (with_reducible exact LeO.none _)
   | (with_reducible refine LeO.ite ?_ ?_)
   | (with_reducible refine LeO.bind ?_ (fun _ => ?_))
   | exact ih0 _ _ _ _ _ _ _
   | exact impl_FdbOk.mono _ _
   | exact impl_put.mono _ _ _ _ _ _ _
   | exact LeO.none _
   | refine LeO.ite ?_ ?_
   | refine LeO.bind ?_ (fun _ => ?_)
set_option maxHeartbeats 8000000 in
set_option maxRecDepth 100000 in
theorem impl_SetStatic.calls (k : Nat) (A0 : Option Addr) (c0 : Nat) (l0 : List (S49)) (a1 : Int) (a2 : Int) (a3 : Int) (r1 : List (S49)) (r2 : Bool) (w : World) (hr0 : Kd.C k49 w A0 l0.length l0) (hc0 : l0.length ≤ c0) (h : impl_SetStatic.f k l0 a1 a2 a3 = some (r1, r2)) :
  Calls Try.prog 50 #[.slice A0 l0.length c0, .int .i64 a1, .int .i64 a2, .int .i64 a3] w fun e w' => ∃ v0_ : Value, e = .returned (.tuple #[v0_, .bool r2]) ∧ Kd.R k49 49 w' w.heap.size (fun _ => True) v0_ r1 ∧ Below w.heap.size w w' := by
 have hu49 := Try.underlying49
 have HR0 := zA hr0
 have HC0 := zA hc0
 clear hr0 hc0
 have HB := zA (Below.refl w.heap.size w)
 have H : ((impl_FdbOk.f k l0).bind fun t407 => (if t407 = true then ((impl_fentOk.f a1 a2 a3 0 true).bind fun t408 => (impl_SetStatic.j0 k l0 (!t408) a1 a2 a3 0 true)) else (impl_SetStatic.j0 k l0 true a1 a2 a3 0 true))) = some (r1, r2) := h
 clear h
 have HC5 := zA H
 clear H
 go_enter Try.func50, Try.ntmps50
 go_upto_region 2 with (first | ((with_reducible refine gate_dst (N := 10) rfl ?_); refine box_event ?hg (N := 10) ?hd (cs := #[.int .i64 0, .int .i64 0, .int .i64 0, .int .i64 0, .bool false]) (t := 49) ?hr ?_; (case hd => rfl); (case hg => rfl); (case hr => first | (go_simp; done) | (go_simp; rfl)); intro gb406 hg w6 hbox hb; have BK406 := zA (hbox); have GW406 := zA ((zq3 : w.heap.size ≤ gb406)); have GE406 := zA ((zq3 : w.heap.size ≤ gb406)); replace HB := zA (below_step zq0 hb); clear hb hbox hg; have hcz7_0 : w6.cell? ⟨gb406, 0, none⟩ = some (.int .i64 0) := (blk_cell BK406.out 0).trans rfl; have hcz7_1 : w6.cell? ⟨gb406, 1, none⟩ = some (.int .i64 0) := (blk_cell BK406.out 1).trans rfl; have hcz7_2 : w6.cell? ⟨gb406, 2, none⟩ = some (.int .i64 0) := (blk_cell BK406.out 2).trans rfl; have hcz7_3 : w6.cell? ⟨gb406, 3, none⟩ = some (.int .i64 0) := (blk_cell BK406.out 3).trans rfl; have hcz7_4 : w6.cell? ⟨gb406, 4, none⟩ = some (.bool false) := (blk_cell BK406.out 4).trans rfl; have hfz7_0 := blk_frozen BK406.out 0; have hfz7_1 := blk_frozen BK406.out 1; have hfz7_2 := blk_frozen BK406.out 2; have hfz7_3 := blk_frozen BK406.out 3; have hfz7_4 := blk_frozen BK406.out 4))
 (try simp only [Act.put, List.setIfInBounds_toArray, List.set_cons_zero, List.set_cons_succ])
 go_cut [22] (fun v22 wc => ∃ (kq : Nat) (x22_4 : Bool), v22 = .bool x22_4 ∧ Aside0 (impl_SetStatic.j0 kq l0 x22_4 a1 a2 a3 0 true = some (r1, r2)) ∧ Aside0 (kq ≤ k) ∧ Aside0 (wc.heap[gb406]? = some (.cells #[.int .i64 a1, .int .i64 a2, .int .i64 a3, .int .i64 0, .bool true] 49 (0, 0))) ∧ Aside0 (Below w.heap.size w wc))
 case first =>
  have H := HC5.out
  clear HC5
  obtain ⟨t407, A8, H⟩ := zB H
  try dsimp only at H
  by_cases c9 : t407 = true
  ·subst c9
   rw [if_pos rfl] at H
   obtain ⟨t408, A10, H⟩ := zB H
   try dsimp only at H
   have H' := zA H
   clear H
   go_wp2_with (first | ((with_reducible refine gate_callee (f := 40) rfl ?_); refine goesL_ (some 16) rfl rfl Try.func40 (by kernel_rfl) rfl #[.slice A0 l0.length c0] rfl zq1 ?_; (with_reducible refine (impl_FdbOk.calls k _ _ l0 true _ ?side1 ?side2 A8.out).mono ?_); (case side1 => exact Kd.C_below HR0.out zq33); (case side2 => exact HC0.out); rintro e w11 ⟨rfl, hb⟩; refine ⟨_, rfl, ?_⟩; replace BK406 := zA (blk_below (g := gb406) (o := .cells #[.int .i64 a1, .int .i64 a2, .int .i64 a3, .int .i64 0, .bool true] 49 (0, 0)) zq35 hb); replace HB := zA (below_step zq33 hb); clear hb; have hcz12_0 : w11.cell? ⟨gb406, 0, none⟩ = some (.int .i64 a1) := (blk_cell BK406.out 0).trans rfl; have hcz12_1 : w11.cell? ⟨gb406, 1, none⟩ = some (.int .i64 a2) := (blk_cell BK406.out 1).trans rfl; have hcz12_2 : w11.cell? ⟨gb406, 2, none⟩ = some (.int .i64 a3) := (blk_cell BK406.out 2).trans rfl; have hcz12_3 : w11.cell? ⟨gb406, 3, none⟩ = some (.int .i64 0) := (blk_cell BK406.out 3).trans rfl; have hcz12_4 : w11.cell? ⟨gb406, 4, none⟩ = some (.bool true) := (blk_cell BK406.out 4).trans rfl; have hfz12_0 := blk_frozen BK406.out 0; have hfz12_1 := blk_frozen BK406.out 1; have hfz12_2 := blk_frozen BK406.out 2; have hfz12_3 := blk_frozen BK406.out 3; have hfz12_4 := blk_frozen BK406.out 4) | (go_at_call 134; (with_reducible refine (impl_fentOk.calls a1 a2 a3 0 true t408 _ A10.out).mono ?_); rintro e w13 ⟨rfl, hb⟩; replace BK406 := zA (blk_below (g := gb406) (o := .cells #[.int .i64 a1, .int .i64 a2, .int .i64 a3, .int .i64 0, .bool true] 49 (0, 0)) zq52 hb); replace HB := zA (below_step zq33 hb); clear hb))
   go_meet
   case rel => exact ⟨_, (!t408), zq15, H', ⟨by first | omega | exact Nat.le_refl _⟩, ⟨by (with_reducible repeat (first | refine blk_drewN ?_ _ | refine blk_drew ?_ | refine blk_alloc ?_ _)); exact BK406.out⟩, ⟨by repeat (first | (with_reducible first | exact HB.out | apply below_alloc | apply pw_below_drewN | apply below_drew1 | refine below_set ?_ GE406.out) | exact HB.out)⟩⟩
  ·replace c9 := Bool.eq_false_iff.mpr c9
   subst c9
   rw [if_neg zF] at H
   have H' := zA H
   clear H
   go_wp2_with (first | ((with_reducible refine gate_callee (f := 40) rfl ?_); refine goesL_ (some 16) rfl rfl Try.func40 (by kernel_rfl) rfl #[.slice A0 l0.length c0] rfl zq1 ?_; (with_reducible refine (impl_FdbOk.calls k _ _ l0 false _ ?side1 ?side2 A8.out).mono ?_); (case side1 => exact Kd.C_below HR0.out zq33); (case side2 => exact HC0.out); rintro e w14 ⟨rfl, hb⟩; refine ⟨_, rfl, ?_⟩; replace BK406 := zA (blk_below (g := gb406) (o := .cells #[.int .i64 a1, .int .i64 a2, .int .i64 a3, .int .i64 0, .bool true] 49 (0, 0)) zq35 hb); replace HB := zA (below_step zq33 hb); clear hb))
   go_meet
   case rel => exact ⟨_, (true), zq15, H', ⟨by first | omega | exact Nat.le_refl _⟩, ⟨by (with_reducible repeat (first | refine blk_drewN ?_ _ | refine blk_drew ?_ | refine blk_alloc ?_ _)); exact BK406.out⟩, ⟨by repeat (first | (with_reducible first | exact HB.out | apply below_alloc | apply pw_below_drewN | apply below_drew1 | refine below_set ?_ GE406.out) | exact HB.out)⟩⟩
 case rest =>
  clear HC5
  try clear p2
  try clear c4
  try clear c5
  try clear c9
  try clear hcz12_0
  try clear hcz12_1
  try clear hcz12_2
  try clear hcz12_3
  try clear hcz12_4
  try clear hcz7_0
  try clear hcz7_1
  try clear hcz7_2
  try clear hcz7_3
  try clear hcz7_4
  try clear hfz12_0
  try clear hfz12_1
  try clear hfz12_2
  try clear hfz12_3
  try clear hfz12_4
  try clear hfz7_0
  try clear hfz7_1
  try clear hfz7_2
  try clear hfz7_3
  try clear hfz7_4
  obtain ⟨kq, x22_4, rfl, HA, HJ4, BK406, HB⟩ := hcut
  cases kq with
  | zero => exact absurd HA.out (by simp [impl_SetStatic.j0])
  | succ kj4 =>
   have H := HA.out
   clear HA
   simp only [impl_SetStatic.j0] at H
   by_cases c15 : x22_4 = true
   ·subst c15
    rw [if_pos rfl] at H
    obtain ⟨t409, A16, H⟩ := zB H
    try dsimp only at H
    simp only [Option.some.injEq, Prod.mk.injEq] at H
    obtain ⟨rfl, rfl⟩ := H
    go_wp2_with (first | ((with_reducible refine gate_callee (f := 135) rfl ?_); refine goesL_ (some 24) rfl rfl Try.func135 (by kernel_rfl) rfl #[.slice A0 l0.length c0] rfl zq1 ?_; (with_reducible refine (impl_copyFdb.calls _ _ l0 t409 _ ?side1 ?side2 A16.out).mono ?_); (case side1 => repeat (first | exact (Kd.C_below HR0.out HB.out) | (with_reducible refine Kd.C_alloc ?_ _) | (with_reducible refine Kd.C_drewN ?_ _) | (with_reducible refine Kd.C_drew ?_))); (case side2 => exact HC0.out); rintro e w17 ⟨v410, rfl, ho0, hb⟩; refine ⟨_, rfl, ?_⟩; have HO411 := zA (Kd.R_lower (Kd.R_newB ho0 (g := gb406) (o := .cells #[.int .i64 a1, .int .i64 a2, .int .i64 a3, .int .i64 0, .bool true] 49 (0, 0)) zq52) (below_size zq33)); replace BK406 := zA (blk_below (g := gb406) (o := .cells #[.int .i64 a1, .int .i64 a2, .int .i64 a3, .int .i64 0, .bool true] 49 (0, 0)) zq52 hb); replace HB := zA (below_step zq33 hb); clear hb ho0))
    go_ret2
    exact ⟨_, by first | rfl | (simp [errW_none, errW_some] <;> rfl) | (simp [*, errW_none, errW_some] <;> rfl), by (with_reducible repeat (first | apply Kd.R_alloc | apply Kd.R_drewN | apply Kd.R_drew)); exact Kd.R_mono HO411.out (fun _ hk => trivial), by repeat (first | (with_reducible first | exact HB.out | apply below_alloc | apply pw_below_drewN | apply below_drew1 | refine below_set ?_ GE406.out) | exact HB.out)⟩
   ·replace c15 := Bool.eq_false_iff.mpr c15
    subst c15
    rw [if_neg zF] at H
    obtain ⟨⟨t412, t415⟩, A18, H⟩ := zB H
    try dsimp only at H
    simp only [Option.some.injEq, Prod.mk.injEq] at H
    obtain ⟨rfl, rfl⟩ := H
    have hcz19_0 : wc.cell? ⟨gb406, 0, none⟩ = some (.int .i64 a1) := (blk_cell BK406.out 0).trans rfl
    have hcz19_1 : wc.cell? ⟨gb406, 1, none⟩ = some (.int .i64 a2) := (blk_cell BK406.out 1).trans rfl
    have hcz19_2 : wc.cell? ⟨gb406, 2, none⟩ = some (.int .i64 a3) := (blk_cell BK406.out 2).trans rfl
    have hcz19_3 : wc.cell? ⟨gb406, 3, none⟩ = some (.int .i64 0) := (blk_cell BK406.out 3).trans rfl
    have hcz19_4 : wc.cell? ⟨gb406, 4, none⟩ = some (.bool true) := (blk_cell BK406.out 4).trans rfl
    have hfz19_0 := blk_frozen BK406.out 0
    have hfz19_1 := blk_frozen BK406.out 1
    have hfz19_2 := blk_frozen BK406.out 2
    have hfz19_3 := blk_frozen BK406.out 3
    have hfz19_4 := blk_frozen BK406.out 4
    go_wp2_with (first | ((with_reducible refine gate_callee (f := 136) rfl ?_); refine goesL_ (some 27) rfl rfl Try.func136 (by kernel_rfl) rfl #[.slice A0 l0.length c0, .agg #[.int .i64 a1, .int .i64 a2, .int .i64 a3, .int .i64 0, .bool true]] rfl zq1 ?_; (with_reducible refine (impl_put.calls kj4 _ _ l0 a1 a2 a3 0 true t412 t415 _ ?side1 ?side2 A18.out).mono ?_); (case side1 => repeat (first | exact (Kd.C_below HR0.out HB.out) | (with_reducible refine Kd.C_alloc ?_ _) | (with_reducible refine Kd.C_drewN ?_ _) | (with_reducible refine Kd.C_drew ?_))); (case side2 => exact HC0.out); rintro e w20 ⟨v413, rfl, ho0, hb⟩; refine ⟨_, rfl, ?_⟩; have HO414 := zA (Kd.R_lower (Kd.R_newB ho0 (g := gb406) (o := .cells #[.int .i64 a1, .int .i64 a2, .int .i64 a3, .int .i64 0, .bool true] 49 (0, 0)) zq52) (below_size zq33)); replace BK406 := zA (blk_below (g := gb406) (o := .cells #[.int .i64 a1, .int .i64 a2, .int .i64 a3, .int .i64 0, .bool true] 49 (0, 0)) zq52 hb); replace HB := zA (below_step zq33 hb); clear hb ho0))
    go_ret2
    exact ⟨_, by first | rfl | (simp [errW_none, errW_some] <;> rfl) | (simp [*, errW_none, errW_some] <;> rfl), by (with_reducible repeat (first | apply Kd.R_alloc | apply Kd.R_drewN | apply Kd.R_drew)); exact Kd.R_mono HO414.out (fun _ hk => trivial), by repeat (first | (with_reducible first | exact HB.out | apply below_alloc | apply pw_below_drewN | apply below_drew1 | refine below_set ?_ GE406.out) | exact HB.out)⟩

/-! ### spec_DrawLookUp: function 145 -/
def spec_DrawLookUp.f (k : Nat) (l0 : List Int) : Option ((List (S49)) × Int × Int) := (spec_l1New.f k l0).bind fun bt416 => ((spec_l8Any.f k bt416.1 bt416.2.1 bt416.2.2).bind fun bt420 => ((spec_l1Below.f bt416.1 bt420.2.1 bt420.2.2 3).bind fun bt425 => ((spec_l6Mac.f bt416.1 bt425.2.1 bt425.2.2).bind fun bt428 => (some (bt420.1, wrap64 (1 + bt425.1), bt428.1)))))
theorem spec_DrawLookUp.mono : ∀ a0 k, LeO (spec_DrawLookUp.f k a0) (spec_DrawLookUp.f (k + 1) a0) := by
 intro a0 k
 unfold spec_DrawLookUp.f
 repeat' first
   | (with_reducible exact spec_l1New.mono _ _)
   | (with_reducible exact spec_l8Any.mono _ _ _ _)
   | (with_reducible exact LeO.refl _)
   | (with_reducible exact LeO.none _)
   | (with_reducible refine LeO.ite ?_ ?_)
   | (with_reducible refine LeO.bind ?_ (fun _ => ?_))
   | exact spec_l1New.mono _ _
   | exact spec_l8Any.mono _ _ _ _
   | exact LeO.none _
   | refine LeO.ite ?_ ?_
   | refine LeO.bind ?_ (fun _ => ?_)
set_option maxHeartbeats 8000000 in
set_option maxRecDepth 100000 in
theorem spec_DrawLookUp.calls (k : Nat) (A0 : Option Addr) (c0 : Nat) (l0 : List Int) (r1 : List (S49)) (r2 : Int) (r3 : Int) (w : World) (hr0 : Kd.C (Kd.int .u8) w A0 l0.length l0) (hc0 : l0.length ≤ c0) (h : spec_DrawLookUp.f k l0 = some (r1, r2, r3)) :
  Calls Try.prog 145 #[.slice A0 l0.length c0] w fun e w' => ∃ v0_ : Value, e = .returned (.tuple #[v0_, .int .i64 r2, .int .i64 r3]) ∧ Kd.R k49 49 w' w.heap.size (fun _ => True) v0_ r1 ∧ Below w.heap.size w w' := by
 have HR0 := zA hr0
 have HC0 := zA hc0
 clear hr0 hc0
 have HB := zA (Below.refl w.heap.size w)
 have H : ((spec_l1New.f k l0).bind fun bt416 => ((spec_l8Any.f k bt416.1 bt416.2.1 bt416.2.2).bind fun bt420 => ((spec_l1Below.f bt416.1 bt420.2.1 bt420.2.2 3).bind fun bt425 => ((spec_l6Mac.f bt416.1 bt425.2.1 bt425.2.2).bind fun bt428 => (some (bt420.1, wrap64 (1 + bt425.1), bt428.1)))))) = some (r1, r2, r3) := h
 clear h
 obtain ⟨⟨t416, t417, t418⟩, A2, H⟩ := zB H
 try dsimp only at H
 obtain ⟨⟨t420, t423, t424⟩, A3, H⟩ := zB H
 try dsimp only at H
 obtain ⟨⟨t425, t426, t427⟩, A4, H⟩ := zB H
 try dsimp only at H
 obtain ⟨⟨t428, t429, t430⟩, A5, H⟩ := zB H
 try dsimp only at H
 simp only [Option.some.injEq, Prod.mk.injEq] at H
 obtain ⟨rfl, rfl, rfl⟩ := H
 go_enter Try.func145, Try.ntmps145
 go_wp2_with (first | ((with_reducible refine gate_callee (f := 104) rfl ?_); refine goesL_ (some 7) rfl rfl Try.func104 (by kernel_rfl) rfl #[.slice A0 l0.length c0] rfl zq1 ?_; (with_reducible refine (spec_l1New.calls k _ _ l0 t416 t417 t418 w _ ?side1 ?side2 ?side3 A2.out).mono ?_); (case side1 => repeat (first | (with_reducible first | exact HB.out | apply below_alloc | apply pw_below_drewN | apply below_drew1) | exact HB.out)); (case side2 => exact HR0.out); (case side3 => exact HC0.out); rintro e w6 ⟨g419, rfl, hi, hb, hb2⟩; refine ⟨_, rfl, ?_⟩; replace HB := zA (hb); have HI419 := zA (hi); clear hb hb2 hi) | ((with_reducible refine gate_callee (f := 139) rfl ?_); refine goesL_ (some 9) rfl rfl Try.func139 (by kernel_rfl) rfl #[.pointer (some ⟨g419, 0, none⟩)] rfl zq1 ?_; (with_reducible refine (spec_l8Any.calls k g419 t416 t417 t418 t420 t423 t424 w _ ?side1 ?side2 A3.out).mono ?_); (case side1 => repeat (first | (with_reducible first | exact HI419.out | apply IsS170.alloc | apply IsS170.drewN | apply IsS170.drew | apply IsS170.set_1 | apply IsS170.set_2) | exact HI419.out)); (case side2 => repeat (first | (with_reducible first | exact HB.out | apply below_alloc | apply pw_below_drewN | apply below_drew1 | refine below_set ?_ (IsS170.ge HI419.out)) | exact HB.out)); rintro e w7 ⟨v421, rfl, ho0, hi, hb, hk⟩; refine ⟨_, rfl, ?_⟩; have HO422 := zA (Kd.R_lower ho0 (below_size (by repeat (first | (with_reducible first | exact HB.out | apply below_alloc | apply pw_below_drewN | apply below_drew1 | refine below_set ?_ (IsS170.ge HI419.out)) | exact HB.out)))); replace HB := zA (hb); replace HI419 := zA (hi); clear hb hk hi ho0) | ((with_reducible refine gate_callee (f := 131) rfl ?_); refine goesL_ (some 11) rfl rfl Try.func131 (by kernel_rfl) rfl #[.pointer (some ⟨g419, 0, none⟩), .int .i64 3] rfl zq1 ?_; (with_reducible refine (spec_l1Below.calls g419 t416 t423 t424 3 t425 t426 t427 w _ ?side1 ?side2 A4.out).mono ?_); (case side1 => repeat (first | (with_reducible first | exact HI419.out | apply IsS170.alloc | apply IsS170.drewN | apply IsS170.drew | apply IsS170.set_1 | apply IsS170.set_2) | exact HI419.out)); (case side2 => repeat (first | (with_reducible first | exact HB.out | apply below_alloc | apply pw_below_drewN | apply below_drew1 | refine below_set ?_ (IsS170.ge HI419.out)) | exact HB.out)); rintro e w8 ⟨rfl, hi, hb, hk⟩; refine ⟨_, rfl, ?_⟩; replace HO422 := zA (Kd.R_mono (Kd.R_keep (IsS170.apart (show IsS170 w _ g419 t416 t423 t424 from by repeat (first | (with_reducible first | exact HI419.out | apply IsS170.alloc | apply IsS170.drewN | apply IsS170.drew | apply IsS170.set_1 | apply IsS170.set_2) | exact HI419.out)) zq79 zq40) hk (fun _ h => h.2)) (fun _ h => h.1)); replace HB := zA (hb); replace HI419 := zA (hi); clear hb hk hi) | ((with_reducible refine gate_callee (f := 132) rfl ?_); refine goesL_ (some 14) rfl rfl Try.func132 (by kernel_rfl) rfl #[.pointer (some ⟨g419, 0, none⟩)] rfl zq1 ?_; (with_reducible refine (spec_l6Mac.calls g419 t416 t426 t427 t428 t429 t430 w _ ?side1 ?side2 A5.out).mono ?_); (case side1 => repeat (first | (with_reducible first | exact HI419.out | apply IsS170.alloc | apply IsS170.drewN | apply IsS170.drew | apply IsS170.set_1 | apply IsS170.set_2) | exact HI419.out)); (case side2 => repeat (first | (with_reducible first | exact HB.out | apply below_alloc | apply pw_below_drewN | apply below_drew1 | refine below_set ?_ (IsS170.ge HI419.out)) | exact HB.out)); rintro e w9 ⟨rfl, hi, hb, hk⟩; refine ⟨_, rfl, ?_⟩; replace HO422 := zA (Kd.R_mono (Kd.R_keep (IsS170.apart (show IsS170 w _ g419 t416 t426 t427 from by repeat (first | (with_reducible first | exact HI419.out | apply IsS170.alloc | apply IsS170.drewN | apply IsS170.drew | apply IsS170.set_1 | apply IsS170.set_2) | exact HI419.out)) zq79 zq40) hk (fun _ h => h.2)) (fun _ h => h.1)); replace HB := zA (hb); replace HI419 := zA (hi); clear hb hk hi))
 go_ret3
 exact ⟨_, by first | rfl | (simp [errW_none, errW_some] <;> rfl) | (simp [*, errW_none, errW_some] <;> rfl), by (with_reducible repeat (first | apply Kd.R_alloc | apply Kd.R_drewN | apply Kd.R_drew)); exact HO422.out, by repeat (first | (with_reducible first | exact HB.out | apply below_alloc | apply pw_below_drewN | apply below_drew1 | refine below_set ?_ (IsS170.ge HI419.out)) | exact HB.out)⟩

/-! ### spec_DrawDropStatic: function 52 -/
def spec_DrawDropStatic.f (k : Nat) (l0 : List Int) : Option ((List (S49)) × Int × Int) := (spec_DrawLookUp.f k l0).bind fun bt431 => (some (bt431.1, bt431.2.1, bt431.2.2))
theorem spec_DrawDropStatic.mono : ∀ a0 k, LeO (spec_DrawDropStatic.f k a0) (spec_DrawDropStatic.f (k + 1) a0) := by
 intro a0 k
 unfold spec_DrawDropStatic.f
 repeat' first
   | (with_reducible exact spec_DrawLookUp.mono _ _)
   | (with_reducible exact LeO.refl _)
   | (with_reducible exact LeO.none _)
   | (with_reducible refine LeO.ite ?_ ?_)
   | (with_reducible refine LeO.bind ?_ (fun _ => ?_))
   | exact spec_DrawLookUp.mono _ _
   | exact LeO.none _
   | refine LeO.ite ?_ ?_
   | refine LeO.bind ?_ (fun _ => ?_)
set_option maxHeartbeats 8000000 in
set_option maxRecDepth 100000 in
theorem spec_DrawDropStatic.calls (k : Nat) (A0 : Option Addr) (c0 : Nat) (l0 : List Int) (r1 : List (S49)) (r2 : Int) (r3 : Int) (w : World) (hr0 : Kd.C (Kd.int .u8) w A0 l0.length l0) (hc0 : l0.length ≤ c0) (h : spec_DrawDropStatic.f k l0 = some (r1, r2, r3)) :
  Calls Try.prog 52 #[.slice A0 l0.length c0] w fun e w' => ∃ v0_ : Value, e = .returned (.tuple #[v0_, .int .i64 r2, .int .i64 r3]) ∧ Kd.R k49 49 w' w.heap.size (fun _ => True) v0_ r1 ∧ Below w.heap.size w w' := by
 have HR0 := zA hr0
 have HC0 := zA hc0
 clear hr0 hc0
 have HB := zA (Below.refl w.heap.size w)
 have H : ((spec_DrawLookUp.f k l0).bind fun bt431 => (some (bt431.1, bt431.2.1, bt431.2.2))) = some (r1, r2, r3) := h
 clear h
 obtain ⟨⟨t431, t432, t433⟩, A2, H⟩ := zB H
 try dsimp only at H
 simp only [Option.some.injEq, Prod.mk.injEq] at H
 obtain ⟨rfl, rfl, rfl⟩ := H
 go_enter Try.func52, Try.ntmps52
 go_wp2_with (first | ((with_reducible refine gate_callee (f := 145) rfl ?_); refine goesL_ (some 6) rfl rfl Try.func145 (by kernel_rfl) rfl #[.slice A0 l0.length c0] rfl zq1 ?_; (with_reducible refine (spec_DrawLookUp.calls k _ _ l0 t431 t432 t433 _ ?side1 ?side2 A2.out).mono ?_); (case side1 => repeat (first | exact HR0.out | (with_reducible refine Kd.C_alloc ?_ _) | (with_reducible refine Kd.C_drewN ?_ _) | (with_reducible refine Kd.C_drew ?_))); (case side2 => exact HC0.out); rintro e w3 ⟨v434, rfl, ho0, hb⟩; refine ⟨_, rfl, ?_⟩; have HO435 := zA (Kd.R_lower ho0 (below_size zq0)); replace HB := zA (below_step zq0 hb); clear hb ho0))
 go_ret3
 exact ⟨_, by first | rfl | (simp [errW_none, errW_some] <;> rfl) | (simp [*, errW_none, errW_some] <;> rfl), by (with_reducible repeat (first | apply Kd.R_alloc | apply Kd.R_drewN | apply Kd.R_drew)); exact HO435.out, by repeat (first | (with_reducible first | exact HB.out | apply below_alloc | apply pw_below_drewN | apply below_drew1) | exact HB.out)⟩

end Go.Proofs.Ytkcgghgkmgbphaa.PFnFdbsBent
