-- WRITTEN BY a turned copy of the kit's printer (wip/patch_print.py), for this claim
import Derived.Test.YtkcgghgkmgbphaaPFnValsx0
import Derived.Test.YtkcgghgkmgbphaaPFnValsx4
import Derived.Test.YtkcgghgkmgbphaaPFnValsx6
import Derived.Test.YtkcgghgkmgbphaaPFnValsx7
namespace Go.Proofs.Ytkcgghgkmgbphaa.PFnVals
open Go.RowKit Go.Proofs.YtkcgghgkmgbphaaW.PrintWords Go.Proofs.YtkcgghgkmgbphaaW.PrintLast Go.Proofs.YtkcgghgkmgbphaaW.PrintMore
attribute [local go_sem] max2_int min2_int max_two min_two max_three min_three max_four min_four   -- for this text's walks alone
set_option linter.unusedVariables false
set_option linter.unusedSimpArgs false

attribute [local go_sem] cell_setCell_m
/-! ### spec_l2Group: function 185 -/
def spec_l2Group.l0 : Nat → Int → List Int → Option (List Int)
 | 0, _, _ => none
 | k + 1, x0, x3 => if x0 > 127 then ((some (([(Go.bits .or .i64 (Go.bits .and .i64 (x0 / 128) 127) 128) % 256] : List Int) : List Int)).bind fun y417 => (if y417.length + x3.length < 140737488355328 then (spec_l2Group.l0 k (x0 / 128) (y417 ++ x3)) else (none))) else (some x3)
def spec_l2Group.f (k : Nat) (a0 : Int) : Option (List Int) := spec_l2Group.l0 k a0 (([(Go.bits .and .i64 a0 127) % 256] : List Int))
theorem spec_l2Group.mono_l : ∀ k, (∀ y0 y1, LeO (spec_l2Group.l0 k y0 y1) (spec_l2Group.l0 (k + 1) y0 y1))
 | 0 => fun _ _ r h => by simp [spec_l2Group.l0] at h
 | k + 1 => by
  have ih0 := spec_l2Group.mono_l k
  ·intro y0 y1
   unfold spec_l2Group.l0
   exact zR
theorem spec_l2Group.mono : ∀ a0 k, LeO (spec_l2Group.f k a0) (spec_l2Group.f (k + 1) a0) := by
 intro a0 k
 have ih0 := spec_l2Group.mono_l k
 unfold spec_l2Group.f
 exact zR
set_option maxHeartbeats 8000000 in
set_option maxRecDepth 100000 in
theorem spec_l2Group.calls (k : Nat) (a0 : Int) (r : List Int) (w : World) (h : spec_l2Group.f k a0 = some r) :
  Calls Try.prog 185 #[.int .i64 a0] w fun e w' => ∃ v0_ : Value, e = .returned (v0_) ∧ Kd.R (Kd.int .u8) 5 w' w.heap.size (fun _ => True) v0_ r ∧ Below w.heap.size w w' := by
 have HB := zA (Below.refl w.heap.size w)
 unfold spec_l2Group.f at h
 have H := h
 clear h
 have HC2 := zA H
 clear H
 go_enter Try.func185, Try.ntmps185
 go_upto_region 0 with (fail)
 have H := HC2.out
 clear HC2
 have HC3 := zA H
 clear H
 go_upto_region 1 with (fail)
 have H := HC3.out
 clear HC3
 obtain ⟨y414, hy414⟩ : ∃ y_ : List Int, y_ = (([(Go.bits .and .i64 a0 127) % 256] : List Int)) := ⟨_, rfl⟩
 rw [← hy414] at H
 have Ny414 := zA hy414
 clear hy414
 have H' := zA H
 clear H
 go_wp2_with (first | ((with_reducible refine gate_dst (N := 7) rfl ?_); refine Kd.R_lit (Kd.int .u8) _ 5 ?hg (N := 7) ?hd (xs := ([(Go.bits .and .i64 a0 127) % 256] : List Int)) (inner := [.int .u8 ((Go.bits .and .i64 a0 127) % 256)]) (ok := fun _ => True) (okp := fun _ => True) ?hr ?hp (fun _ hk => hk) trivial (Below.refl _ _) (Nat.le_refl _) zq134 ?_; (case hd => rfl); (case hg => rfl); (case hr => first | (go_simp; done) | (go_simp; rfl)); (case hp => exact (Reps.one (show Kd.M (Kd.int .u8) _ _ _ ((Go.bits .and .i64 a0 127) % 256) [.int .u8 ((Go.bits .and .i64 a0 127) % 256)] from rfl) (Reps.none _ _))); intro v415 w4 ho5 hb hg_ hnew_; clear hg_ hnew_; (first | rw [← Ny414.out] at ho5 | (simp only [Int.reduceToNat] at ho5; rw [← Ny414.out] at ho5)); have HO416 := zA (Kd.R_lower ho5 (below_size zq0)); replace HB := zA (below_step zq0 hb); clear hb ho5))
 go_loopg [0, 3] k (fun kq v0 v3 w' => ∃ (x0_1 : Int) (x3_1 : List Int), v0 = .int .i64 x0_1 ∧ Aside0 (spec_l2Group.l0 kq x0_1 x3_1 = some r) ∧ Aside0 (kq ≤ k) ∧ Aside0 (Kd.R (Kd.int .u8) 5 w' w.heap.size (fun _ => True) v3 x3_1) ∧ Aside0 (Below w.heap.size w w'))
 case atStart => exact ⟨(a0), (y414), zq10, H', ⟨Nat.le_refl _⟩, ⟨(by (with_reducible repeat (first | apply Kd.R_alloc | apply Kd.R_drewN | apply Kd.R_drew)); exact HO416.out)⟩, ⟨zq0⟩⟩
 case round =>
  clear H'
  try clear c1
  try clear p2
  obtain ⟨x0_1, x3_1, rfl, HA, HK1, HO_3, HB⟩ := hrel
  cases gk with
  | zero => exact absurd HA.out (by simp [spec_l2Group.l0])
  | succ k1 =>
   have H := HA.out
   clear HA
   simp only [spec_l2Group.l0] at H
   have HC6 := zA H
   clear H
   go_upto_region 2 with (fail)
   have H := HC6.out
   clear HC6
   by_cases c7 : x0_1 > 127
   ·rw [if_pos c7] at H
    have c7b0 : decide (127 < x0_1) = true := decide_eq_true c7
    clear c7
    have HC8 := zA H
    clear H
    go_upto_region 3 with (fail)
    have H := HC8.out
    clear HC8
    have HC9 := zA H
    clear H
    go_upto_region 4 with (fail)
    have H := HC9.out
    clear HC9
    obtain ⟨y417, Ny417, H⟩ := zS (([(Go.bits .or .i64 (Go.bits .and .i64 (x0_1 / 128) 127) 128) % 256] : List Int)) H
    obtain ⟨c10, H⟩ := zN H
    have LMc10 := zA c10
    clear c10
    obtain ⟨y420, hy420⟩ : ∃ y_ : List Int, y_ = (y417 ++ x3_1) := ⟨_, rfl⟩
    rw [← hy420] at H
    have Ny420 := zA hy420
    clear hy420
    have H' := zA H
    clear H
    go_wp2_with (first | ((with_reducible refine gate_dst (N := 16) rfl ?_); refine Kd.R_lit (Kd.int .u8) _ 5 ?hg (N := 16) ?hd (xs := ([(Go.bits .or .i64 (Go.bits .and .i64 (x0_1 / 128) 127) 128) % 256] : List Int)) (inner := [.int .u8 ((Go.bits .or .i64 (Go.bits .and .i64 (x0_1 / 128) 127) 128) % 256)]) (ok := fun _ => True) (okp := fun _ => True) ?hr ?hp (fun _ hk => hk) trivial (Below.refl _ _) (Nat.le_refl _) zq134 ?_; (case hd => rfl); (case hg => rfl); (case hr => first | (go_simp; done) | (go_simp; rfl)); (case hp => exact (Reps.one (show Kd.M (Kd.int .u8) _ _ _ ((Go.bits .or .i64 (Go.bits .and .i64 (x0_1 / 128) 127) 128) % 256) [.int .u8 ((Go.bits .or .i64 (Go.bits .and .i64 (x0_1 / 128) 127) 128) % 256)] from rfl) (Reps.none _ _))); intro v418 w11 ho12 hb hg_ hnew_; clear hg_ hnew_; (first | rw [← Ny417.out] at ho12 | (simp only [Int.reduceToNat] at ho12; rw [← Ny417.out] at ho12)); have HO419 := zA (Kd.R_lower (Kd.R_new' ho12 (Kd.R_lt zq14)) (below_size zq0)); replace HO_3 := zA (Kd.R_elder' zq14 (Kd.R_base ho12) hb); replace HB := zA (below_step zq0 hb); clear hb ho12; obtain ⟨Ao14, co14, eo14⟩ := Kd.R_slice HO_3.out; subst eo14) | ((with_reducible refine gate_builtin (b := .append) (xs := #[.tmp 16, .tmp 17]) rfl ?_); at_builtin; refine Kd.R_append_rows (Kd.int .u8) (w0 := w) w.heap.size rfl (.tmp 16) (.tmp 17) 22 5 (.int .u8 0) 1 rfl Try.underlying22 info5 rfl zq39 zq144 v418 y417 x3_1 _ _ _ (fun k_ => some k_ ≠ (.slice Ao14 x3_1.length co14 : Value).ownBlock) (fun _ => False) rfl rfl ?aO ?aR (fun _ _ h => h) (fun _ h => h.elim) ?aF ?aB ?aS ?aL ?_; (case aR => repeat (first | exact (Kd.R_reads' HO_3.out).2.2 | (with_reducible refine Kd.C_alloc ?_ _) | (with_reducible refine Kd.C_drewN ?_ _) | (with_reducible refine Kd.C_drew ?_))); (case aB => exact zq0); (case aF => exact (fun k_ hk => Kd.fresh' (Kd.R_lt zq14) k_ hk)); (case aO => exact (by (with_reducible repeat (first | apply Kd.R_alloc | apply Kd.R_drewN | apply Kd.R_drew)); exact Kd.R_mono HO419.out (fun _ hk => hk.2))); (case aS => exact (below_size zq0)); (case aL => have := LMc10.out; omega); intro v421 w13 ho hb hg hat; rw [← Ny420.out] at ho; replace HO_3 := zA (Kd.R_after (ok := (fun _ => True)) zq14 hg hat); replace HB := zA (hb); have HO422 := zA (ho); clear HO419; clear ho hb hg hat))
    go_roundg k1
    case measure => have := HK1.out; omega
    case rel => exact ⟨(x0_1 / 128), (y420), zq10, H', ⟨zq148⟩, ⟨(by (with_reducible repeat (first | apply Kd.R_alloc | apply Kd.R_drewN | apply Kd.R_drew)); exact Kd.R_mono HO422.out (fun _ hk => trivial))⟩, ⟨zq0⟩⟩
   ·rw [if_neg c7] at H
    have c7b0 : decide (127 < x0_1) = false := decide_eq_false c7
    clear c7
    have HC15 := zA H
    clear H
    go_upto_region 5 with (fail)
    have H := HC15.out
    clear HC15
    obtain rfl := Option.some.inj H
    go_wp2
    go_ret
    exact ⟨_, zq2, zq14, zq0⟩

/-! ### spec_PutOid: function 153 -/
def spec_PutOid.l0 : Nat → List Int → List Int → Int → Option (List Int)
 | 0, _, _, _ => none
 | k + 1, x0, x3, x4 => if x4 < (x0.length : Int) then (if 0 ≤ x4 then ((spec_l2Group.f k (rd x0 x4)).bind fun t428 => (if x3.length + t428.length < 140737488355328 then (spec_PutOid.l0 k x0 (x3 ++ t428) (wrap64 (x4 + 1))) else (none))) else (none)) else (some x3)
def spec_PutOid.f (k : Nat) (l0 : List Int) : Option (List Int) := (some (([] : List Int) : List Int)).bind fun y423 => ((spec_OidOk.f k l0).bind fun t426 => (if t426 = true then (spec_PutOid.l0 k l0 y423 0) else (some y423)))
theorem spec_PutOid.mono_l : ∀ k, (∀ y0 y1 y2, LeO (spec_PutOid.l0 k y0 y1 y2) (spec_PutOid.l0 (k + 1) y0 y1 y2))
 | 0 => fun _ _ _ r h => by simp [spec_PutOid.l0] at h
 | k + 1 => by
  have ih0 := spec_PutOid.mono_l k
  ·intro y0 y1 y2
   unfold spec_PutOid.l0
   have m0_ := @spec_OidOk.mono
   have m1_ := @spec_l2Group.mono
   exact zR
theorem spec_PutOid.mono : ∀ a0 k, LeO (spec_PutOid.f k a0) (spec_PutOid.f (k + 1) a0) := by
 intro a0 k
 have ih0 := spec_PutOid.mono_l k
 unfold spec_PutOid.f
 have m0_ := @spec_OidOk.mono
 have m1_ := @spec_l2Group.mono
 exact zR
set_option maxHeartbeats 8000000 in
set_option maxRecDepth 100000 in
theorem spec_PutOid.calls (k : Nat) (A0 : Option Addr) (c0 : Nat) (l0 : List Int) (r : List Int) (w : World) (hr0 : Kd.C (Kd.int .i64) w A0 l0.length l0) (hc0 : l0.length ≤ c0) (h : spec_PutOid.f k l0 = some r) :
  Calls Try.prog 153 #[.slice A0 l0.length c0] w fun e w' => ∃ v0_ : Value, e = .returned (v0_) ∧ Kd.R (Kd.int .u8) 5 w' w.heap.size (fun _ => True) v0_ r ∧ Below w.heap.size w w' := by
 have HR0 := zA hr0
 have HC0 := zA hc0
 clear hr0 hc0
 have HB := zA (Below.refl w.heap.size w)
 unfold spec_PutOid.f at h
 have H := h
 clear h
 have HC2 := zA H
 clear H
 go_enter Try.func153, Try.ntmps153
 go_upto_region 0 with (fail)
 have H := HC2.out
 clear HC2
 have HC3 := zA H
 clear H
 go_upto_region 1 with (fail)
 have H := HC3.out
 clear HC3
 obtain ⟨y423, Ny423, H⟩ := zS (([] : List Int)) H
 have HC4 := zA H
 clear H
 go_upto_region 2 with (first | ((with_reducible refine gate_dst (N := 5) rfl ?_); refine Kd.R_lit (Kd.int .u8) _ 5 ?hg (N := 5) ?hd (xs := ([] : List Int)) (inner := []) (ok := fun _ => True) (okp := fun _ => True) ?hr ?hp (fun _ hk => hk) trivial (Below.refl _ _) (Nat.le_refl _) zq134 ?_; (case hd => rfl); (case hg => rfl); (case hr => first | (go_simp; done) | (go_simp; rfl)); (case hp => exact (Reps.none _ _)); intro v424 w5 ho6 hb hg_ hnew_; clear hg_ hnew_; (first | rw [← Ny423.out] at ho6 | (simp only [Int.reduceToNat] at ho6; rw [← Ny423.out] at ho6)); have HO425 := zA (Kd.R_lower ho6 (below_size zq0)); replace HB := zA (below_step zq0 hb); clear hb ho6))
 (try simp only [Act.put, List.setIfInBounds_toArray, List.set_cons_zero, List.set_cons_succ])
 have H := HC4.out
 clear HC4
 obtain ⟨t426, A7, H⟩ := zB H
 try dsimp only at H
 by_cases c8 : t426 = true
 ·subst c8
  rw [if_pos rfl] at H
  have HC9 := zA H
  clear H
  go_upto_region 4 with (first | ((with_reducible refine gate_callee (f := 175) rfl ?_); refine goesL_ (some 7) rfl rfl Try.func175 (by kernel_rfl) rfl #[.slice A0 l0.length c0] rfl zq1 ?_; (with_reducible refine (spec_OidOk.calls k _ _ l0 true _ ?side1 ?side2 A7.out).mono ?_); (case side1 => repeat (first | exact (Kd.C_below HR0.out HB.out) | (with_reducible refine Kd.C_alloc ?_ _) | (with_reducible refine Kd.C_drewN ?_ _) | (with_reducible refine Kd.C_drew ?_))); (case side2 => exact HC0.out); rintro e w' ⟨rfl, ⟨nd, rfl⟩⟩; refine ⟨_, rfl, ?_⟩))
  (try simp only [Act.put, List.setIfInBounds_toArray, List.set_cons_zero, List.set_cons_succ])
  have H := HC9.out
  clear HC9
  have H' := zA H
  clear H
  go_wp2
  go_loopg [3, 4] k (fun kq v3 v4 w' => ∃ (x3_1 : List Int) (x4_1 : Int), v4 = .int .i64 x4_1 ∧ Aside0 (spec_PutOid.l0 kq l0 x3_1 x4_1 = some r) ∧ Aside0 (kq ≤ k) ∧ Aside0 (Kd.R (Kd.int .u8) 5 w' w.heap.size (fun _ => True) v3 x3_1) ∧ Aside0 (Below w.heap.size w w'))
  case atStart => exact ⟨(y423), (0), zq10, H', ⟨Nat.le_refl _⟩, ⟨zq209⟩, ⟨zq0⟩⟩
  case round =>
   clear H'
   try clear c1
   try clear p2
   try clear c8
   obtain ⟨x3_1, x4_1, rfl, HA, HK1, HO_3, HB⟩ := hrel
   cases gk with
   | zero => exact absurd HA.out (by simp [spec_PutOid.l0])
   | succ k1 =>
    have H := HA.out
    clear HA
    simp only [spec_PutOid.l0] at H
    have HC10 := zA H
    clear H
    go_upto_region 5 with (fail)
    have H := HC10.out
    clear HC10
    by_cases c11 : x4_1 < (l0.length : Int)
    ·rw [if_pos c11] at H
     have c11b0 : decide (x4_1 < (l0.length : Int)) = true := decide_eq_true c11
     clear c11
     have HC12 := zA H
     clear H
     go_upto_region 7 with (fail)
     have H := HC12.out
     clear HC12
     obtain ⟨c13, H⟩ := zN H
     have c13b0 : decide (0 ≤ x4_1) = true := decide_eq_true c13
     clear c13
     obtain ⟨t428, A14, H⟩ := zB H
     try dsimp only at H
     obtain ⟨c15, H⟩ := zN H
     have LMc15 := zA c15
     clear c15
     obtain ⟨y431, hy431⟩ : ∃ y_ : List Int, y_ = (x3_1 ++ t428) := ⟨_, rfl⟩
     rw [← hy431] at H
     have Ny431 := zA hy431
     clear hy431
     have HC16 := zA H
     clear H
     have p427 : 0 ≤ (x4_1 : Int) := of_decide_eq_true zq7
     have q427 : x4_1 < (l0.length : Int) := of_decide_eq_true zq7
     obtain ⟨ad427, e427, hx427_0⟩ := Kd.at_int HR0.out x4_1 p427 q427
     cases e427
     replace hx427_0 := (HB.out.cell (World.block_lt_of_cell? w _ hx427_0)).trans hx427_0
     replace p427 := eq_true p427
     replace q427 := eq_true q427
     go_upto_region 6 with (first | ((with_reducible refine gate_callee (f := 185) rfl ?_); refine goesL_ (some 21) rfl rfl Try.func185 (by kernel_rfl) rfl #[.int .i64 (rd l0 x4_1)] rfl zq1 ?_; (with_reducible refine (spec_l2Group.calls k1 (rd l0 x4_1) t428 _ A14.out).mono ?_); rintro e w17 ⟨v429, rfl, ho0, hb⟩; refine ⟨_, rfl, ?_⟩; have HO430 := zA (Kd.R_lower (Kd.R_new' ho0 (Kd.R_lt zq14)) (below_size zq0)); replace HO_3 := zA (Kd.R_elder' zq14 (Kd.R_base ho0) hb); replace HB := zA (below_step zq0 hb); clear hb ho0; obtain ⟨Ao19, co19, eo19⟩ := Kd.R_slice HO430.out; subst eo19) | ((with_reducible refine gate_builtin (b := .append) (xs := #[.tmp 16, .tmp 21]) rfl ?_); at_builtin; refine Kd.R_append_rows (Kd.int .u8) (w0 := w) w.heap.size rfl (.tmp 16) (.tmp 21) 22 5 (.int .u8 0) 1 rfl Try.underlying22 info5 rfl zq39 zq144 u3 x3_1 t428 _ _ _ (fun k_ => some k_ ≠ (.slice Ao19 t428.length co19 : Value).ownBlock) (fun _ => False) rfl rfl ?aO ?aR (fun _ _ h => h) (fun _ h => h.elim) ?aF ?aB ?aS ?aL ?_; (case aR => repeat (first | exact (Kd.R_reads' HO430.out).2.2 | (with_reducible refine Kd.C_alloc ?_ _) | (with_reducible refine Kd.C_drewN ?_ _) | (with_reducible refine Kd.C_drew ?_))); (case aB => exact zq0); (case aF => exact (fun k_ hk => Kd.fresh' (Kd.R_lt zq210) k_ hk)); (case aO => exact zq200); (case aS => exact (below_size zq0)); (case aL => have := LMc15.out; omega); intro v432 w18 ho hb hg hat; rw [← Ny431.out] at ho; replace HO430 := zA (Kd.R_after (ok := (fun _ => True)) zq210 hg hat); replace HB := zA (hb); have HO433 := zA (ho); clear HO_3; clear ho hb hg hat))
     (try simp only [Act.put, List.setIfInBounds_toArray, List.set_cons_zero, List.set_cons_succ])
     have H := HC16.out
     clear HC16
     have H' := zA H
     clear H
     go_wp2
     go_roundg k1
     case measure => have := HK1.out; omega
     case rel => exact ⟨(y431), (wrap64 (x4_1 + 1)), zq10, H', ⟨zq148⟩, ⟨(by (with_reducible repeat (first | apply Kd.R_alloc | apply Kd.R_drewN | apply Kd.R_drew)); exact Kd.R_mono HO433.out (fun _ hk => trivial))⟩, ⟨zq0⟩⟩
    ·rw [if_neg c11] at H
     have c11b0 : decide (x4_1 < (l0.length : Int)) = false := decide_eq_false c11
     clear c11
     have HC20 := zA H
     clear H
     go_upto_region 8 with (fail)
     have H := HC20.out
     clear HC20
     obtain rfl := Option.some.inj H
     go_wp2
     go_ret
     exact ⟨_, zq2, zq14, zq0⟩
 ·replace c8 := Bool.eq_false_iff.mpr c8
  subst c8
  rw [if_neg zF] at H
  have HC21 := zA H
  clear H
  go_upto_region 3 with (first | ((with_reducible refine gate_callee (f := 175) rfl ?_); refine goesL_ (some 7) rfl rfl Try.func175 (by kernel_rfl) rfl #[.slice A0 l0.length c0] rfl zq1 ?_; (with_reducible refine (spec_OidOk.calls k _ _ l0 false _ ?side1 ?side2 A7.out).mono ?_); (case side1 => repeat (first | exact (Kd.C_below HR0.out HB.out) | (with_reducible refine Kd.C_alloc ?_ _) | (with_reducible refine Kd.C_drewN ?_ _) | (with_reducible refine Kd.C_drew ?_))); (case side2 => exact HC0.out); rintro e w' ⟨rfl, ⟨nd, rfl⟩⟩; refine ⟨_, rfl, ?_⟩))
  (try simp only [Act.put, List.setIfInBounds_toArray, List.set_cons_zero, List.set_cons_succ])
  have H := HC21.out
  clear HC21
  obtain rfl := Option.some.inj H
  go_wp2
  go_ret
  exact ⟨_, zq2, zq209, zq0⟩

/-! ### spec_PutVal: function 68 -/
def spec_PutVal.f (k : Nat) (l0 : List Int) (a1_0 : Int) (a1_1 : Int) (a1_2 : ByteArray) (l1_3 : List Int) : Option (List Int) := (spec_ValOk.f k a1_0 a1_1 a1_2 l1_3).bind fun t435 => (if t435 = true then (if a1_0 = 2 then ((spec_PutInt.f k a1_1).bind fun t445 => ((spec_PutTlv.f k l0 a1_0 t445).bind fun t448 => (some t448))) else (if a1_0 = 4 then (if a1_2.size ≤ 140737488355328 then ((spec_PutTlv.f k l0 a1_0 ((bytesOf a1_2 : List Int))).bind fun t454 => (some t454)) else (none)) else (if a1_0 = 6 then ((spec_PutOid.f k l1_3).bind fun t457 => ((spec_PutTlv.f k l0 a1_0 t457).bind fun t460 => (some t460))) else ((spec_PutTlv.f k l0 a1_0 (([] : List Int))).bind fun t463 => (some t463))))) else ((some (([] : List Int) : List Int)).bind fun y436 => (if y436.length + l0.length < 140737488355328 then (some (y436 ++ l0)) else (none))))
theorem spec_PutVal.mono : ∀ a0 a1 a2 a3 a4 k, LeO (spec_PutVal.f k a0 a1 a2 a3 a4) (spec_PutVal.f (k + 1) a0 a1 a2 a3 a4) := by
 intro a0 a1 a2 a3 a4 k
 unfold spec_PutVal.f
 have m0_ := @spec_PutInt.mono
 have m1_ := @spec_PutOid.mono
 have m2_ := @spec_PutTlv.mono
 have m3_ := @spec_ValOk.mono
 exact zR
set_option maxHeartbeats 8000000 in
set_option maxRecDepth 100000 in
theorem spec_PutVal.calls (k : Nat) (A0 : Option Addr) (c0 : Nat) (l0 : List Int) (a1_0 : Int) (a1_1 : Int) (a1_2 : ByteArray) (A1_3 : Option Addr) (c1_3 : Nat) (l1_3 : List Int) (r : List Int) (w : World) (hr0 : Kd.C (Kd.int .u8) w A0 l0.length l0) (hc0 : l0.length ≤ c0) (hr1_3 : Kd.C (Kd.int .i64) w A1_3 l1_3.length l1_3) (hc1_3 : l1_3.length ≤ c1_3) (h : spec_PutVal.f k l0 a1_0 a1_1 a1_2 l1_3 = some r) :
  Calls Try.prog 68 #[.slice A0 l0.length c0, .agg #[.int .i64 a1_0, .int .i64 a1_1, .string a1_2, .slice A1_3 l1_3.length c1_3]] w fun e w' => ∃ v0_ : Value, e = .returned (v0_) ∧ Kd.R (Kd.int .u8) 5 w' w.heap.size (fun _ => True) v0_ r ∧ Below w.heap.size w w' := by
 have hu76 := Try.underlying76
 have HR0 := zA hr0
 have HC0 := zA hc0
 clear hr0 hc0
 have HR1_3 := zA hr1_3
 have HC1_3 := zA hc1_3
 clear hr1_3 hc1_3
 have HB := zA (Below.refl w.heap.size w)
 unfold spec_PutVal.f at h
 have H := h
 clear h
 have HC3 := zA H
 clear H
 go_enter Try.func68, Try.ntmps68
 go_upto_region 0 with (fail)
 have H := HC3.out
 clear HC3
 have HC4 := zA H
 clear H
 go_upto_region 1 with (first | ((with_reducible refine gate_dst (N := 3) rfl ?_); refine box_event ?hg (N := 3) ?hd (cs := #[.int .i64 a1_0, .int .i64 a1_1, .string a1_2, .slice A1_3 l1_3.length c1_3]) (t := 76) ?hr ?_; (case hd => rfl); (case hg => rfl); (case hr => first | (go_simp; done) | (go_simp; rfl)); intro gb434 hg w5 hbox hb; have BK434 := zA (hbox); have GW434 := zA ((zq11 : w.heap.size ≤ gb434)); have GE434 := zA ((zq11 : w.heap.size ≤ gb434)); replace HB := zA (below_step zq0 hb); clear hb hbox hg))
 (try simp only [Act.put, List.setIfInBounds_toArray, List.set_cons_zero, List.set_cons_succ])
 have H := HC4.out
 clear HC4
 obtain ⟨t435, A6, H⟩ := zB H
 try dsimp only at H
 by_cases c7 : t435 = true
 ·subst c7
  rw [if_pos rfl] at H
  have HC8 := zA H
  clear H
  have hcz9_0 : w5.cell? ⟨gb434, 0, none⟩ = some (.int .i64 a1_0) := (blk_cell BK434.out 0).trans rfl
  have hcz9_1 : w5.cell? ⟨gb434, 1, none⟩ = some (.int .i64 a1_1) := (blk_cell BK434.out 1).trans rfl
  have hcz9_2 : w5.cell? ⟨gb434, 2, none⟩ = some (.string a1_2) := (blk_cell BK434.out 2).trans rfl
  have hcz9_3 : w5.cell? ⟨gb434, 3, none⟩ = some (.slice A1_3 l1_3.length c1_3) := (blk_cell BK434.out 3).trans rfl
  have hfz9_0 := blk_frozen BK434.out 0
  have hfz9_1 := blk_frozen BK434.out 1
  have hfz9_2 := blk_frozen BK434.out 2
  have hfz9_3 := blk_frozen BK434.out 3
  go_upto_region 3 with (first | ((with_reducible refine gate_callee (f := 91) rfl ?_); refine goesL_ (some 7) rfl rfl Try.func91 (by kernel_rfl) rfl #[.agg #[.int .i64 a1_0, .int .i64 a1_1, .string a1_2, .slice A1_3 l1_3.length c1_3]] rfl zq1 ?_; (with_reducible refine (spec_ValOk.calls k a1_0 a1_1 a1_2 _ _ l1_3 true _ ?side1 ?side2 A6.out).mono ?_); (case side1 => repeat (first | exact (Kd.C_below HR1_3.out HB.out) | (with_reducible refine Kd.C_alloc ?_ _) | (with_reducible refine Kd.C_drewN ?_ _) | (with_reducible refine Kd.C_drew ?_))); (case side2 => exact HC1_3.out); rintro e w10 ⟨rfl, hb⟩; refine ⟨_, rfl, ?_⟩; replace BK434 := zA (blk_below (g := gb434) (o := .cells #[.int .i64 a1_0, .int .i64 a1_1, .string a1_2, .slice A1_3 l1_3.length c1_3] 76 (0, 0)) zq48 hb); replace HB := zA (below_step zq13 hb); clear hb))
  (try simp only [Act.put, List.setIfInBounds_toArray, List.set_cons_zero, List.set_cons_succ])
  have H := HC8.out
  clear HC8
  obtain ⟨y442, hy442⟩ : ∃ y_ : List Int, y_ = (([] : List Int)) := ⟨_, rfl⟩
  rw [← hy442] at H
  have Ny442 := zA hy442
  clear hy442
  have HC11 := zA H
  clear H
  go_upto_region 4 with (first | ((with_reducible refine gate_dst (N := 12) rfl ?_); refine Kd.R_lit (Kd.int .u8) _ 5 ?hg (N := 12) ?hd (xs := ([] : List Int)) (inner := []) (ok := fun _ => True) (okp := fun _ => True) ?hr ?hp (fun _ hk => hk) trivial (Below.refl _ _) (Nat.le_refl _) zq134 ?_; (case hd => rfl); (case hg => rfl); (case hr => first | (go_simp; done) | (go_simp; rfl)); (case hp => exact (Reps.none _ _)); intro v443 w12 ho13 hb hg_ hnew_; clear hg_ hnew_; (first | rw [← Ny442.out] at ho13 | (simp only [Int.reduceToNat] at ho13; rw [← Ny442.out] at ho13)); have HO444 := zA (Kd.R_lower ho13 (below_size zq13)); replace BK434 := zA (blk_below (g := gb434) (o := .cells #[.int .i64 a1_0, .int .i64 a1_1, .string a1_2, .slice A1_3 l1_3.length c1_3] 76 (0, 0)) zq48 hb); replace HB := zA (below_step zq13 hb); clear hb ho13))
  (try simp only [Act.put, List.setIfInBounds_toArray, List.set_cons_zero, List.set_cons_succ])
  have H := HC11.out
  clear HC11
  have HC14 := zA H
  clear H
  have hcz15_0 : w12.cell? ⟨gb434, 0, none⟩ = some (.int .i64 a1_0) := (blk_cell BK434.out 0).trans rfl
  have hcz15_1 : w12.cell? ⟨gb434, 1, none⟩ = some (.int .i64 a1_1) := (blk_cell BK434.out 1).trans rfl
  have hcz15_2 : w12.cell? ⟨gb434, 2, none⟩ = some (.string a1_2) := (blk_cell BK434.out 2).trans rfl
  have hcz15_3 : w12.cell? ⟨gb434, 3, none⟩ = some (.slice A1_3 l1_3.length c1_3) := (blk_cell BK434.out 3).trans rfl
  have hfz15_0 := blk_frozen BK434.out 0
  have hfz15_1 := blk_frozen BK434.out 1
  have hfz15_2 := blk_frozen BK434.out 2
  have hfz15_3 := blk_frozen BK434.out 3
  go_upto_region 5 with (fail)
  have H := HC14.out
  clear HC14
  by_cases c16 : a1_0 = 2
  ·rw [if_pos c16] at H
   have c16b0 : (a1_0 == 2) = true := beq_iff_eq.mpr c16
   have c16b1 : (a1_0 != 2) = false := bne_eq_false_iff_eq.mpr c16
   clear c16
   have HC17 := zA H
   clear H
   go_upto_region 6 with (fail)
   have H := HC17.out
   clear HC17
   obtain ⟨t445, A18, H⟩ := zB H
   try dsimp only at H
   have HC19 := zA H
   clear H
   have hcz20_0 : w12.cell? ⟨gb434, 0, none⟩ = some (.int .i64 a1_0) := (blk_cell BK434.out 0).trans rfl
   have hcz20_1 : w12.cell? ⟨gb434, 1, none⟩ = some (.int .i64 a1_1) := (blk_cell BK434.out 1).trans rfl
   have hcz20_2 : w12.cell? ⟨gb434, 2, none⟩ = some (.string a1_2) := (blk_cell BK434.out 2).trans rfl
   have hcz20_3 : w12.cell? ⟨gb434, 3, none⟩ = some (.slice A1_3 l1_3.length c1_3) := (blk_cell BK434.out 3).trans rfl
   have hfz20_0 := blk_frozen BK434.out 0
   have hfz20_1 := blk_frozen BK434.out 1
   have hfz20_2 := blk_frozen BK434.out 2
   have hfz20_3 := blk_frozen BK434.out 3
   go_upto_region 11 with (first | ((with_reducible refine gate_callee (f := 152) rfl ?_); refine goesL_ (some 19) rfl rfl Try.func152 (by kernel_rfl) rfl #[.int .i64 a1_1] rfl zq1 ?_; (with_reducible refine (spec_PutInt.calls k a1_1 t445 _ A18.out).mono ?_); rintro e w21 ⟨v446, rfl, ho0, hb⟩; refine ⟨_, rfl, ?_⟩; have HO447 := zA (Kd.R_lower (Kd.R_new' ho0 (Kd.R_lt zq49)) (below_size zq13)); replace HO444 := zA (Kd.R_elder' zq49 (Kd.R_base ho0) hb); replace BK434 := zA (blk_below (g := gb434) (o := .cells #[.int .i64 a1_0, .int .i64 a1_1, .string a1_2, .slice A1_3 l1_3.length c1_3] 76 (0, 0)) zq48 hb); replace HB := zA (below_step zq13 hb); clear hb ho0))
   (try simp only [Act.put, List.setIfInBounds_toArray, List.set_cons_zero, List.set_cons_succ])
   have H := HC19.out
   clear HC19
   obtain ⟨t448, A22, H⟩ := zB H
   try dsimp only at H
   obtain rfl := Option.some.inj H
   have hcz23_0 : w21.cell? ⟨gb434, 0, none⟩ = some (.int .i64 a1_0) := (blk_cell BK434.out 0).trans rfl
   have hcz23_1 : w21.cell? ⟨gb434, 1, none⟩ = some (.int .i64 a1_1) := (blk_cell BK434.out 1).trans rfl
   have hcz23_2 : w21.cell? ⟨gb434, 2, none⟩ = some (.string a1_2) := (blk_cell BK434.out 2).trans rfl
   have hcz23_3 : w21.cell? ⟨gb434, 3, none⟩ = some (.slice A1_3 l1_3.length c1_3) := (blk_cell BK434.out 3).trans rfl
   have hfz23_0 := blk_frozen BK434.out 0
   have hfz23_1 := blk_frozen BK434.out 1
   have hfz23_2 := blk_frozen BK434.out 2
   have hfz23_3 := blk_frozen BK434.out 3
   obtain ⟨Ao24, co24, eo24⟩ := Kd.R_slice HO447.out
   subst eo24
   go_wp2_with (first | ((with_reducible refine gate_callee (f := 126) rfl ?_); refine goesL_ (some 34) rfl rfl Try.func126 (by kernel_rfl) rfl #[.slice A0 l0.length c0, .int .i64 a1_0, .slice Ao24 t445.length co24] rfl zq1 ?_; (with_reducible refine (spec_PutTlv.calls k _ _ l0 a1_0 _ _ t445 t448 _ ?side1 ?side2 ?side3 ?side4 A22.out).mono ?_); (case side1 => repeat (first | exact (Kd.C_below HR0.out HB.out) | (with_reducible refine Kd.C_alloc ?_ _) | (with_reducible refine Kd.C_drewN ?_ _) | (with_reducible refine Kd.C_drew ?_))); (case side2 => exact HC0.out); (case side3 => repeat (first | exact (Kd.R_reads' HO447.out).2.2 | (with_reducible refine Kd.C_alloc ?_ _) | (with_reducible refine Kd.C_drewN ?_ _) | (with_reducible refine Kd.C_drew ?_))); (case side4 => exact (Kd.R_reads' HO447.out).2.1); rintro e w25 ⟨v449, rfl, ho0, hb⟩; refine ⟨_, rfl, ?_⟩; have HO450 := zA (Kd.R_lower (Kd.R_new' (Kd.R_new' ho0 (Kd.R_lt zq49)) (Kd.R_lt zq211)) (below_size zq13)); replace HO444 := zA (Kd.R_elder' zq49 (Kd.R_base ho0) hb); replace HO447 := zA (Kd.R_elder' zq211 (Kd.R_base ho0) hb); replace BK434 := zA (blk_below (g := gb434) (o := .cells #[.int .i64 a1_0, .int .i64 a1_1, .string a1_2, .slice A1_3 l1_3.length c1_3] 76 (0, 0)) zq48 hb); replace HB := zA (below_step zq13 hb); clear hb ho0))
   go_ret
   exact ⟨_, zq2, (by (with_reducible repeat (first | apply Kd.R_alloc | apply Kd.R_drewN | apply Kd.R_drew)); exact Kd.R_mono HO450.out (fun _ hk => trivial)), zq13⟩
  ·rw [if_neg c16] at H
   have c16b0 : (a1_0 == 2) = false := beq_eq_false_iff_ne.mpr c16
   have c16b1 : (a1_0 != 2) = true := bne_iff_ne.mpr c16
   have HC26 := zA H
   clear H
   go_upto_region 7 with (fail)
   have H := HC26.out
   clear HC26
   by_cases c27 : a1_0 = 4
   ·rw [if_pos c27] at H
    have c27b0 : (a1_0 == 4) = true := beq_iff_eq.mpr c27
    have c27b1 : (a1_0 != 4) = false := bne_eq_false_iff_eq.mpr c27
    clear c27
    have HC28 := zA H
    clear H
    go_upto_region 8 with (fail)
    have H := HC28.out
    clear HC28
    obtain ⟨c29, H⟩ := zN H
    have c29b0 := eq_true c29
    have c29b1 : decide (a1_2.size ≤ 140737488355328) = true := decide_eq_true c29
    clear c29
    obtain ⟨y451, hy451⟩ : ∃ y_ : List Int, y_ = ((bytesOf a1_2 : List Int)) := ⟨_, rfl⟩
    rw [← hy451] at H
    have Ny451 := zA hy451
    clear hy451
    have HC30 := zA H
    clear H
    have hcz31_0 : w12.cell? ⟨gb434, 0, none⟩ = some (.int .i64 a1_0) := (blk_cell BK434.out 0).trans rfl
    have hcz31_1 : w12.cell? ⟨gb434, 1, none⟩ = some (.int .i64 a1_1) := (blk_cell BK434.out 1).trans rfl
    have hcz31_2 : w12.cell? ⟨gb434, 2, none⟩ = some (.string a1_2) := (blk_cell BK434.out 2).trans rfl
    have hcz31_3 : w12.cell? ⟨gb434, 3, none⟩ = some (.slice A1_3 l1_3.length c1_3) := (blk_cell BK434.out 3).trans rfl
    have hfz31_0 := blk_frozen BK434.out 0
    have hfz31_1 := blk_frozen BK434.out 1
    have hfz31_2 := blk_frozen BK434.out 2
    have hfz31_3 := blk_frozen BK434.out 3
    go_upto_region 11 with (first | ((with_reducible refine gate_dst (N := 24) rfl ?_); refine V_conv _ ?hg (N := 24) ?hd ?hx 9 22 5 ?ho Try.underlying9 Try.underlying22 Try.underlying5 a1_2 ?hr (ok := fun k_ => w12.heap.size ≤ k_) (Nat.le_refl _) ?hm (Below.refl _ _) (Nat.le_refl _) ?_; (case hd => rfl); (case hg => rfl); (case ho => rfl); (case hr => first | rfl | (go_simp; done) | (go_simp; rfl)); (case hm => exact of_decide_eq_true zq7); intro v452 w32 ho33 hb hg_ hnew_; clear hg_ hnew_; (first | rw [← Ny451.out] at ho33 | (simp only [Int.reduceToNat] at ho33; rw [← Ny451.out] at ho33)); have HO453 := zA (Kd.V_lower (Kd.V_mono (ok' := fun k_ => some k_ ≠ (v443 : Value).ownBlock ∧ k_ ≠ gb434) ho33 (fun k_ hk_ => ⟨(Kd.fresh' (Kd.R_lt zq49) k_ hk_), (Kd.freshB (g := gb434) (o := .cells #[.int .i64 a1_0, .int .i64 a1_1, .string a1_2, .slice A1_3 l1_3.length c1_3] 76 (0, 0)) zq48 k_ hk_)⟩)) (below_size zq13)); replace HO444 := zA (Kd.R_below zq49 hb); replace BK434 := zA (blk_below (g := gb434) (o := .cells #[.int .i64 a1_0, .int .i64 a1_1, .string a1_2, .slice A1_3 l1_3.length c1_3] 76 (0, 0)) zq48 hb); replace HB := zA (below_step zq13 hb); clear hb ho33))
    (try simp only [Act.put, List.setIfInBounds_toArray, List.set_cons_zero, List.set_cons_succ])
    have H := HC30.out
    clear HC30
    obtain ⟨t454, A34, H⟩ := zB H
    try dsimp only at H
    obtain rfl := Option.some.inj H
    have hcz35_0 : w32.cell? ⟨gb434, 0, none⟩ = some (.int .i64 a1_0) := (blk_cell BK434.out 0).trans rfl
    have hcz35_1 : w32.cell? ⟨gb434, 1, none⟩ = some (.int .i64 a1_1) := (blk_cell BK434.out 1).trans rfl
    have hcz35_2 : w32.cell? ⟨gb434, 2, none⟩ = some (.string a1_2) := (blk_cell BK434.out 2).trans rfl
    have hcz35_3 : w32.cell? ⟨gb434, 3, none⟩ = some (.slice A1_3 l1_3.length c1_3) := (blk_cell BK434.out 3).trans rfl
    have hfz35_0 := blk_frozen BK434.out 0
    have hfz35_1 := blk_frozen BK434.out 1
    have hfz35_2 := blk_frozen BK434.out 2
    have hfz35_3 := blk_frozen BK434.out 3
    obtain ⟨Ao36, co36, eo36⟩ := Kd.V_slice HO453.out
    subst eo36
    go_wp2_with (first | ((with_reducible refine gate_callee (f := 126) rfl ?_); refine goesL_ (some 34) rfl rfl Try.func126 (by kernel_rfl) rfl #[.slice A0 l0.length c0, .int .i64 a1_0, .slice Ao36 y451.length co36] rfl zq1 ?_; (with_reducible refine (spec_PutTlv.calls k _ _ l0 a1_0 _ _ y451 t454 _ ?side1 ?side2 ?side3 ?side4 A34.out).mono ?_); (case side1 => repeat (first | exact (Kd.C_below HR0.out HB.out) | (with_reducible refine Kd.C_alloc ?_ _) | (with_reducible refine Kd.C_drewN ?_ _) | (with_reducible refine Kd.C_drew ?_))); (case side2 => exact HC0.out); (case side3 => repeat (first | exact (Kd.V_reads' HO453.out).2.2 | (with_reducible refine Kd.C_alloc ?_ _) | (with_reducible refine Kd.C_drewN ?_ _) | (with_reducible refine Kd.C_drew ?_))); (case side4 => exact (Kd.V_reads' HO453.out).2.1); rintro e w37 ⟨v455, rfl, ho0, hb⟩; refine ⟨_, rfl, ?_⟩; replace HO453 := zA (Kd.V_elder' (by (with_reducible repeat (first | apply Kd.V_alloc | apply Kd.V_drewN | apply Kd.V_drew)); exact HO453.out) (Kd.R_base ho0) hb); have HO456 := zA (Kd.R_lower (Kd.R_new' ho0 (Kd.R_lt zq49)) (below_size zq13)); replace HO444 := zA (Kd.R_elder' zq49 (Kd.R_base ho0) hb); replace BK434 := zA (blk_below (g := gb434) (o := .cells #[.int .i64 a1_0, .int .i64 a1_1, .string a1_2, .slice A1_3 l1_3.length c1_3] 76 (0, 0)) zq48 hb); replace HB := zA (below_step zq13 hb); clear hb ho0))
    go_ret
    exact ⟨_, zq2, (by (with_reducible repeat (first | apply Kd.R_alloc | apply Kd.R_drewN | apply Kd.R_drew)); exact Kd.R_mono HO456.out (fun _ hk => trivial)), zq13⟩
   ·rw [if_neg c27] at H
    have c27b0 : (a1_0 == 4) = false := beq_eq_false_iff_ne.mpr c27
    have c27b1 : (a1_0 != 4) = true := bne_iff_ne.mpr c27
    have HC38 := zA H
    clear H
    go_upto_region 9 with (fail)
    have H := HC38.out
    clear HC38
    by_cases c39 : a1_0 = 6
    ·rw [if_pos c39] at H
     have c39b0 : (a1_0 == 6) = true := beq_iff_eq.mpr c39
     have c39b1 : (a1_0 != 6) = false := bne_eq_false_iff_eq.mpr c39
     clear c39
     have HC40 := zA H
     clear H
     go_upto_region 10 with (fail)
     have H := HC40.out
     clear HC40
     obtain ⟨t457, A41, H⟩ := zB H
     try dsimp only at H
     have HC42 := zA H
     clear H
     have hcz43_0 : w12.cell? ⟨gb434, 0, none⟩ = some (.int .i64 a1_0) := (blk_cell BK434.out 0).trans rfl
     have hcz43_1 : w12.cell? ⟨gb434, 1, none⟩ = some (.int .i64 a1_1) := (blk_cell BK434.out 1).trans rfl
     have hcz43_2 : w12.cell? ⟨gb434, 2, none⟩ = some (.string a1_2) := (blk_cell BK434.out 2).trans rfl
     have hcz43_3 : w12.cell? ⟨gb434, 3, none⟩ = some (.slice A1_3 l1_3.length c1_3) := (blk_cell BK434.out 3).trans rfl
     have hfz43_0 := blk_frozen BK434.out 0
     have hfz43_1 := blk_frozen BK434.out 1
     have hfz43_2 := blk_frozen BK434.out 2
     have hfz43_3 := blk_frozen BK434.out 3
     go_upto_region 11 with (first | ((with_reducible refine gate_callee (f := 153) rfl ?_); refine goesL_ (some 29) rfl rfl Try.func153 (by kernel_rfl) rfl #[.slice A1_3 l1_3.length c1_3] rfl zq1 ?_; (with_reducible refine (spec_PutOid.calls k _ _ l1_3 t457 _ ?side1 ?side2 A41.out).mono ?_); (case side1 => repeat (first | exact (Kd.C_below HR1_3.out HB.out) | (with_reducible refine Kd.C_alloc ?_ _) | (with_reducible refine Kd.C_drewN ?_ _) | (with_reducible refine Kd.C_drew ?_))); (case side2 => exact HC1_3.out); rintro e w44 ⟨v458, rfl, ho0, hb⟩; refine ⟨_, rfl, ?_⟩; have HO459 := zA (Kd.R_lower (Kd.R_new' ho0 (Kd.R_lt zq49)) (below_size zq13)); replace HO444 := zA (Kd.R_elder' zq49 (Kd.R_base ho0) hb); replace BK434 := zA (blk_below (g := gb434) (o := .cells #[.int .i64 a1_0, .int .i64 a1_1, .string a1_2, .slice A1_3 l1_3.length c1_3] 76 (0, 0)) zq48 hb); replace HB := zA (below_step zq13 hb); clear hb ho0))
     (try simp only [Act.put, List.setIfInBounds_toArray, List.set_cons_zero, List.set_cons_succ])
     have H := HC42.out
     clear HC42
     obtain ⟨t460, A45, H⟩ := zB H
     try dsimp only at H
     obtain rfl := Option.some.inj H
     have hcz46_0 : w44.cell? ⟨gb434, 0, none⟩ = some (.int .i64 a1_0) := (blk_cell BK434.out 0).trans rfl
     have hcz46_1 : w44.cell? ⟨gb434, 1, none⟩ = some (.int .i64 a1_1) := (blk_cell BK434.out 1).trans rfl
     have hcz46_2 : w44.cell? ⟨gb434, 2, none⟩ = some (.string a1_2) := (blk_cell BK434.out 2).trans rfl
     have hcz46_3 : w44.cell? ⟨gb434, 3, none⟩ = some (.slice A1_3 l1_3.length c1_3) := (blk_cell BK434.out 3).trans rfl
     have hfz46_0 := blk_frozen BK434.out 0
     have hfz46_1 := blk_frozen BK434.out 1
     have hfz46_2 := blk_frozen BK434.out 2
     have hfz46_3 := blk_frozen BK434.out 3
     obtain ⟨Ao47, co47, eo47⟩ := Kd.R_slice HO459.out
     subst eo47
     go_wp2_with (first | ((with_reducible refine gate_callee (f := 126) rfl ?_); refine goesL_ (some 34) rfl rfl Try.func126 (by kernel_rfl) rfl #[.slice A0 l0.length c0, .int .i64 a1_0, .slice Ao47 t457.length co47] rfl zq1 ?_; (with_reducible refine (spec_PutTlv.calls k _ _ l0 a1_0 _ _ t457 t460 _ ?side1 ?side2 ?side3 ?side4 A45.out).mono ?_); (case side1 => repeat (first | exact (Kd.C_below HR0.out HB.out) | (with_reducible refine Kd.C_alloc ?_ _) | (with_reducible refine Kd.C_drewN ?_ _) | (with_reducible refine Kd.C_drew ?_))); (case side2 => exact HC0.out); (case side3 => repeat (first | exact (Kd.R_reads' HO459.out).2.2 | (with_reducible refine Kd.C_alloc ?_ _) | (with_reducible refine Kd.C_drewN ?_ _) | (with_reducible refine Kd.C_drew ?_))); (case side4 => exact (Kd.R_reads' HO459.out).2.1); rintro e w48 ⟨v461, rfl, ho0, hb⟩; refine ⟨_, rfl, ?_⟩; have HO462 := zA (Kd.R_lower (Kd.R_new' (Kd.R_new' ho0 (Kd.R_lt zq49)) (Kd.R_lt zq212)) (below_size zq13)); replace HO444 := zA (Kd.R_elder' zq49 (Kd.R_base ho0) hb); replace HO459 := zA (Kd.R_elder' zq212 (Kd.R_base ho0) hb); replace BK434 := zA (blk_below (g := gb434) (o := .cells #[.int .i64 a1_0, .int .i64 a1_1, .string a1_2, .slice A1_3 l1_3.length c1_3] 76 (0, 0)) zq48 hb); replace HB := zA (below_step zq13 hb); clear hb ho0))
     go_ret
     exact ⟨_, zq2, (by (with_reducible repeat (first | apply Kd.R_alloc | apply Kd.R_drewN | apply Kd.R_drew)); exact Kd.R_mono HO462.out (fun _ hk => trivial)), zq13⟩
    ·rw [if_neg c39] at H
     have c39b0 : (a1_0 == 6) = false := beq_eq_false_iff_ne.mpr c39
     have c39b1 : (a1_0 != 6) = true := bne_iff_ne.mpr c39
     have HC49 := zA H
     clear H
     go_upto_region 11 with (fail)
     have H := HC49.out
     clear HC49
     obtain ⟨t463, A50, H⟩ := zB H
     try dsimp only at H
     obtain rfl := Option.some.inj H
     have hcz51_0 : w12.cell? ⟨gb434, 0, none⟩ = some (.int .i64 a1_0) := (blk_cell BK434.out 0).trans rfl
     have hcz51_1 : w12.cell? ⟨gb434, 1, none⟩ = some (.int .i64 a1_1) := (blk_cell BK434.out 1).trans rfl
     have hcz51_2 : w12.cell? ⟨gb434, 2, none⟩ = some (.string a1_2) := (blk_cell BK434.out 2).trans rfl
     have hcz51_3 : w12.cell? ⟨gb434, 3, none⟩ = some (.slice A1_3 l1_3.length c1_3) := (blk_cell BK434.out 3).trans rfl
     have hfz51_0 := blk_frozen BK434.out 0
     have hfz51_1 := blk_frozen BK434.out 1
     have hfz51_2 := blk_frozen BK434.out 2
     have hfz51_3 := blk_frozen BK434.out 3
     obtain ⟨Ao52, co52, eo52⟩ := Kd.R_slice HO444.out
     subst eo52
     go_wp2_with (first | ((with_reducible refine gate_callee (f := 126) rfl ?_); refine goesL_ (some 34) rfl rfl Try.func126 (by kernel_rfl) rfl #[.slice A0 l0.length c0, .int .i64 a1_0, .slice Ao52 y442.length co52] rfl zq1 ?_; (with_reducible refine (spec_PutTlv.calls k _ _ l0 a1_0 _ _ y442 t463 _ ?side1 ?side2 ?side3 ?side4 A50.out).mono ?_); (case side1 => repeat (first | exact (Kd.C_below HR0.out HB.out) | (with_reducible refine Kd.C_alloc ?_ _) | (with_reducible refine Kd.C_drewN ?_ _) | (with_reducible refine Kd.C_drew ?_))); (case side2 => exact HC0.out); (case side3 => repeat (first | exact (Kd.R_reads' HO444.out).2.2 | (with_reducible refine Kd.C_alloc ?_ _) | (with_reducible refine Kd.C_drewN ?_ _) | (with_reducible refine Kd.C_drew ?_))); (case side4 => exact (Kd.R_reads' HO444.out).2.1); rintro e w53 ⟨v464, rfl, ho0, hb⟩; refine ⟨_, rfl, ?_⟩; have HO465 := zA (Kd.R_lower (Kd.R_new' ho0 (Kd.R_lt zq49)) (below_size zq13)); replace HO444 := zA (Kd.R_elder' zq49 (Kd.R_base ho0) hb); replace BK434 := zA (blk_below (g := gb434) (o := .cells #[.int .i64 a1_0, .int .i64 a1_1, .string a1_2, .slice A1_3 l1_3.length c1_3] 76 (0, 0)) zq48 hb); replace HB := zA (below_step zq13 hb); clear hb ho0))
     go_ret
     exact ⟨_, zq2, (by (with_reducible repeat (first | apply Kd.R_alloc | apply Kd.R_drewN | apply Kd.R_drew)); exact Kd.R_mono HO465.out (fun _ hk => trivial)), zq13⟩
 ·replace c7 := Bool.eq_false_iff.mpr c7
  subst c7
  rw [if_neg zF] at H
  have HC54 := zA H
  clear H
  have hcz55_0 : w5.cell? ⟨gb434, 0, none⟩ = some (.int .i64 a1_0) := (blk_cell BK434.out 0).trans rfl
  have hcz55_1 : w5.cell? ⟨gb434, 1, none⟩ = some (.int .i64 a1_1) := (blk_cell BK434.out 1).trans rfl
  have hcz55_2 : w5.cell? ⟨gb434, 2, none⟩ = some (.string a1_2) := (blk_cell BK434.out 2).trans rfl
  have hcz55_3 : w5.cell? ⟨gb434, 3, none⟩ = some (.slice A1_3 l1_3.length c1_3) := (blk_cell BK434.out 3).trans rfl
  have hfz55_0 := blk_frozen BK434.out 0
  have hfz55_1 := blk_frozen BK434.out 1
  have hfz55_2 := blk_frozen BK434.out 2
  have hfz55_3 := blk_frozen BK434.out 3
  go_upto_region 2 with (first | ((with_reducible refine gate_callee (f := 91) rfl ?_); refine goesL_ (some 7) rfl rfl Try.func91 (by kernel_rfl) rfl #[.agg #[.int .i64 a1_0, .int .i64 a1_1, .string a1_2, .slice A1_3 l1_3.length c1_3]] rfl zq1 ?_; (with_reducible refine (spec_ValOk.calls k a1_0 a1_1 a1_2 _ _ l1_3 false _ ?side1 ?side2 A6.out).mono ?_); (case side1 => repeat (first | exact (Kd.C_below HR1_3.out HB.out) | (with_reducible refine Kd.C_alloc ?_ _) | (with_reducible refine Kd.C_drewN ?_ _) | (with_reducible refine Kd.C_drew ?_))); (case side2 => exact HC1_3.out); rintro e w56 ⟨rfl, hb⟩; refine ⟨_, rfl, ?_⟩; replace BK434 := zA (blk_below (g := gb434) (o := .cells #[.int .i64 a1_0, .int .i64 a1_1, .string a1_2, .slice A1_3 l1_3.length c1_3] 76 (0, 0)) zq48 hb); replace HB := zA (below_step zq13 hb); clear hb))
  (try simp only [Act.put, List.setIfInBounds_toArray, List.set_cons_zero, List.set_cons_succ])
  have H := HC54.out
  clear HC54
  obtain ⟨y436, Ny436, H⟩ := zS (([] : List Int)) H
  obtain ⟨c57, H⟩ := zN H
  have LMc57 := zA c57
  clear c57
  obtain ⟨y439, hy439⟩ : ∃ y_ : List Int, y_ = (y436 ++ l0) := ⟨_, rfl⟩
  rw [← hy439] at H
  have Ny439 := zA hy439
  clear hy439
  obtain rfl := Option.some.inj H
  go_wp2_with (first | ((with_reducible refine gate_dst (N := 9) rfl ?_); refine Kd.R_lit (Kd.int .u8) _ 5 ?hg (N := 9) ?hd (xs := ([] : List Int)) (inner := []) (ok := fun _ => True) (okp := fun _ => True) ?hr ?hp (fun _ hk => hk) trivial (Below.refl _ _) (Nat.le_refl _) zq134 ?_; (case hd => rfl); (case hg => rfl); (case hr => first | (go_simp; done) | (go_simp; rfl)); (case hp => exact (Reps.none _ _)); intro v437 w58 ho59 hb hg_ hnew_; clear hg_ hnew_; (first | rw [← Ny436.out] at ho59 | (simp only [Int.reduceToNat] at ho59; rw [← Ny436.out] at ho59)); have HO438 := zA (Kd.R_lower ho59 (below_size zq13)); replace BK434 := zA (blk_below (g := gb434) (o := .cells #[.int .i64 a1_0, .int .i64 a1_1, .string a1_2, .slice A1_3 l1_3.length c1_3] 76 (0, 0)) zq48 hb); replace HB := zA (below_step zq13 hb); clear hb ho59) | ((with_reducible refine gate_builtin (b := .append) (xs := #[.tmp 9, .tmp 10]) rfl ?_); at_builtin; refine Kd.R_append_rows (Kd.int .u8) (w0 := w) w.heap.size rfl (.tmp 9) (.tmp 10) 22 5 (.int .u8 0) 1 rfl Try.underlying22 info5 rfl zq39 zq144 v437 y436 l0 _ _ _ (fun _ => True) (fun _ => False) rfl rfl ?aO ?aR (fun _ _ h => h) (fun _ h => h.elim) ?aF ?aB ?aS ?aL ?_; (case aR => repeat (first | exact (Kd.C_below HR0.out HB.out) | (with_reducible refine Kd.C_alloc ?_ _) | (with_reducible refine Kd.C_drewN ?_ _) | (with_reducible refine Kd.C_drew ?_))); (case aB => exact zq13); (case aF => exact (fun _ _ => trivial)); (case aO => exact (by (with_reducible repeat (first | apply Kd.R_alloc | apply Kd.R_drewN | apply Kd.R_drew)); exact HO438.out)); (case aS => exact (below_size zq13)); (case aL => have := LMc57.out; omega); intro v440 w60 ho hb hg hat; rw [← Ny439.out] at ho; replace BK434 := zA (blk_grown (g := gb434) (o := .cells #[.int .i64 a1_0, .int .i64 a1_1, .string a1_2, .slice A1_3 l1_3.length c1_3] 76 (0, 0)) zq48 hg (Kd.R_ne HO438.out BK434.out zq39)); replace HB := zA (hb); have HO441 := zA (ho); clear HO438; clear ho hb hg hat))
  go_ret
  exact ⟨_, zq2, (by (with_reducible repeat (first | apply Kd.R_alloc | apply Kd.R_drewN | apply Kd.R_drew)); exact HO441.out), zq13⟩

/-! ### spec_l1Bend: function 110 -/
def spec_l1Bend.f (s0_0 : List Int) (s0_1 : Int) (s0_2 : Int) (l1 : List Int) : Option (List Int × Int × Int) := if (l1.length : Int) = 0 then (some (l1, s0_1, s0_2)) else ((spec_l1Below.f s0_0 s0_1 s0_2 5).bind fun bt466 => (if bt466.1 = 0 then ((spec_l1Below.f s0_0 bt466.2.1 bt466.2.2 (l1.length : Int)).bind fun bt469 => ((spec_l1Int.f s0_0 bt469.2.1 bt469.2.2 (([0, 1, 2, 4, 5, 6, 48, 127, 128, 129, 160, 255] : List Int))).bind fun bt475 => (if 0 ≤ bt469.1 then (if bt469.1 < (l1.length : Int) then (some ((l1.set (bt469.1 : Int).toNat ((bt475.1) % 256)), bt475.2.1, bt475.2.2)) else (none)) else (none)))) else (if bt466.1 = 1 then (if l1.length < 140737488355328 then (some ((l1 ++ [3]), bt466.2.1, bt466.2.2)) else (none)) else (if bt466.1 = 2 then ((spec_l1Below.f s0_0 bt466.2.1 bt466.2.2 (l1.length : Int)).bind fun bt482 => (if 0 ≤ bt482.1 then (if bt482.1 ≤ (l1.length : Int) then (some ((l1.take (bt482.1 : Int).toNat), bt482.2.1, bt482.2.2)) else (none)) else (none))) else (some (l1, bt466.2.1, bt466.2.2))))))
set_option maxHeartbeats 8000000 in
set_option maxRecDepth 100000 in
theorem spec_l1Bend.calls (g : Nat) (s0_0 : List Int) (s0_1 : Int) (s0_2 : Int) (P1_ : Nat → Prop) (u9000_ : Value) (l1 : List Int) (r1 : List Int) (r2 : Int) (r3 : Int) (w0 w : World) (hI : IsS170 w0 w g s0_0 s0_1 s0_2) (hB : Below w0.heap.size w0 w) (ho1 : Kd.R (Kd.int .u8) 5 w w0.heap.size P1_ u9000_ l1) (h : spec_l1Bend.f s0_0 s0_1 s0_2 l1 = some (r1, r2, r3)) :
  Calls Try.prog 110 #[.pointer (some ⟨g, 0, none⟩), u9000_] w fun e w' => ∃ v0_ : Value, e = .returned (v0_) ∧ Kd.R (Kd.int .u8) 5 w' w0.heap.size (fun k_ => (P1_ k_ ∨ w.heap.size ≤ k_)) v0_ r1 ∧ IsS170 w0 w' g s0_0 r2 r3 ∧ Below w0.heap.size w0 w' ∧ Kept w w' (fun k_ => (P1_ k_) ∨ k_ = g) := by
 have HO1 := zA (show Kd.R (Kd.int .u8) 5 w w0.heap.size (fun k_ => (P1_ k_ ∨ w.heap.size ≤ k_)) u9000_ l1 from Kd.R_mono ho1 (fun k_ hk => (.inl hk)))
 have HI0 := zA hI
 have HL := zA hB.size
 clear hI
 have HK := zA (Kept.refl w (fun k_ => (P1_ k_) ∨ k_ = g))
 have HW0 := zA hB.size
 have HB := zA hB
 clear hB
 unfold spec_l1Bend.f at h
 have H := h
 clear h
 have HC3 := zA H
 clear H
 go_enter Try.func110, Try.ntmps110
 go_upto_region 0 with (fail)
 have H := HC3.out
 clear HC3
 have HC4 := zA H
 clear H
 go_upto_region 1 with (fail)
 have H := HC4.out
 clear HC4
 by_cases c5 : (l1.length : Int) = 0
 ·rw [if_pos c5] at H
  have c5b0 : ((l1.length : Int) == 0) = true := beq_iff_eq.mpr c5
  have c5b1 : ((l1.length : Int) != 0) = false := bne_eq_false_iff_eq.mpr c5
  clear c5
  have HC6 := zA H
  clear H
  obtain ⟨Ao7, co7, eo7⟩ := Kd.R_slice HO1.out
  subst eo7
  go_upto_region 2 with (fail)
  have H := HC6.out
  clear HC6
  simp only [Option.some.injEq, Prod.mk.injEq] at H
  obtain ⟨rfl, rfl, rfl⟩ := H
  go_wp2
  go_ret
  exact ⟨_, zq2, zq94, zq4, zq5, zq37⟩
 ·rw [if_neg c5] at H
  have c5b0 : ((l1.length : Int) == 0) = false := beq_eq_false_iff_ne.mpr c5
  have c5b1 : ((l1.length : Int) != 0) = true := bne_iff_ne.mpr c5
  have c5b2 : ¬ (l1 = []) := fun h_ => c5 (by rw [h_]; rfl)
  have HC8 := zA H
  clear H
  obtain ⟨Ao9, co9, eo9⟩ := Kd.R_slice HO1.out
  subst eo9
  go_upto_region 3 with (fail)
  have H := HC8.out
  clear HC8
  obtain ⟨⟨t466, t467, t468⟩, A10, H⟩ := zB H
  try dsimp only at H
  have HC11 := zA H
  clear H
  go_upto_region 4 with (first | ((with_reducible refine gate_callee (f := 131) rfl ?_); refine goesL_ (some 10) rfl rfl Try.func131 (by kernel_rfl) rfl #[.pointer (some ⟨g, 0, none⟩), .int .i64 5] rfl zq1 ?_; (with_reducible refine (spec_l1Below.calls g s0_0 s0_1 s0_2 5 t466 t467 t468 w0 _ ?side1 ?side2 A10.out).mono ?_); (case side1 => repeat (first | (with_reducible first | exact HI0.out | apply IsS170.alloc | apply IsS170.drewN | apply IsS170.drew | apply IsS170.set_1 | apply IsS170.set_2) | exact HI0.out)); (case side2 => repeat (first | (with_reducible first | exact HB.out | apply below_alloc | apply pw_below_drewN | apply below_drew1 | refine below_set ?_ (IsS170.ge HI0.out)) | exact HB.out)); rintro e w12 ⟨rfl, hi, hb, hk⟩; refine ⟨_, rfl, ?_⟩; replace HO1 := zA (Kd.R_mono (Kd.R_keep (IsS170.apart (show IsS170 w0 _ g s0_0 s0_1 s0_2 from by repeat (first | (with_reducible first | exact HI0.out | apply IsS170.alloc | apply IsS170.drewN | apply IsS170.drew | apply IsS170.set_1 | apply IsS170.set_2) | exact HI0.out)) zq94 zq39) hk (fun _ h => h.2)) (fun _ h => h.1)); replace HK := zA (Kept.of_keep (S := (fun k_ => (P1_ k_) ∨ k_ = g)) zq37 hk (.inl (.inr rfl))); replace HB := zA (hb); replace HI0 := zA (hi); clear hb hk hi))
  (try simp only [Act.put, List.setIfInBounds_toArray, List.set_cons_zero, List.set_cons_succ])
  have H := HC11.out
  clear HC11
  by_cases c13 : t466 = 0
  ·rw [if_pos c13] at H
   have c13b0 : (t466 == 0) = true := beq_iff_eq.mpr c13
   have c13b1 : (t466 != 0) = false := bne_eq_false_iff_eq.mpr c13
   clear c13
   have HC14 := zA H
   clear H
   go_upto_region 5 with (fail)
   have H := HC14.out
   clear HC14
   obtain ⟨⟨t469, t470, t471⟩, A15, H⟩ := zB H
   try dsimp only at H
   obtain ⟨y472, hy472⟩ : ∃ y_ : List Int, y_ = (([0, 1, 2, 4, 5, 6, 48, 127, 128, 129, 160, 255] : List Int)) := ⟨_, rfl⟩
   rw [← hy472] at H
   have Ny472 := zA hy472
   clear hy472
   obtain ⟨⟨t475, t476, t477⟩, A16, H⟩ := zB H
   try dsimp only at H
   obtain ⟨c17, H⟩ := zN H
   have c17b0 : decide (0 ≤ t469) = true := decide_eq_true c17
   clear c17
   obtain ⟨c18, H⟩ := zN H
   have c18b0 : decide (t469 < (l1.length : Int)) = true := decide_eq_true c18
   clear c18
   obtain ⟨y478, hy478⟩ : ∃ y_ : List Int, y_ = (l1.set (t469 : Int).toNat ((t475) % 256)) := ⟨_, rfl⟩
   rw [← hy478] at H
   have Ny478 := zA hy478
   clear hy478
   have HC20 := zA H
   clear H
   go_upto_region 10 with (first | ((with_reducible refine gate_callee (f := 131) rfl ?_); refine goesL_ (some 17) rfl rfl Try.func131 (by kernel_rfl) rfl #[.pointer (some ⟨g, 0, none⟩), .int .i64 (l1.length : Int)] rfl zq1 ?_; (with_reducible refine (spec_l1Below.calls g s0_0 t467 t468 (l1.length : Int) t469 t470 t471 w0 _ ?side1 ?side2 A15.out).mono ?_); (case side1 => repeat (first | (with_reducible first | exact HI0.out | apply IsS170.alloc | apply IsS170.drewN | apply IsS170.drew | apply IsS170.set_1 | apply IsS170.set_2) | exact HI0.out)); (case side2 => repeat (first | (with_reducible first | exact HB.out | apply below_alloc | apply pw_below_drewN | apply below_drew1 | refine below_set ?_ (IsS170.ge HI0.out)) | exact HB.out)); rintro e w21 ⟨rfl, hi, hb, hk⟩; refine ⟨_, rfl, ?_⟩; replace HO1 := zA (Kd.R_mono (Kd.R_keep (IsS170.apart (show IsS170 w0 _ g s0_0 t467 t468 from by repeat (first | (with_reducible first | exact HI0.out | apply IsS170.alloc | apply IsS170.drewN | apply IsS170.drew | apply IsS170.set_1 | apply IsS170.set_2) | exact HI0.out)) zq94 zq39) hk (fun _ h => h.2)) (fun _ h => h.1)); replace HK := zA (Kept.of_keep (S := (fun k_ => (P1_ k_) ∨ k_ = g)) zq37 hk (.inl (.inr rfl))); replace HB := zA (hb); replace HI0 := zA (hi); clear hb hk hi) | ((with_reducible refine gate_dst (N := 19) rfl ?_); refine Kd.R_lit (Kd.int .i64) _ 3 ?hg (N := 19) ?hd (xs := ([0, 1, 2, 4, 5, 6, 48, 127, 128, 129, 160, 255] : List Int)) (inner := [.int .i64 0, .int .i64 1, .int .i64 2, .int .i64 4, .int .i64 5, .int .i64 6, .int .i64 48, .int .i64 127, .int .i64 128, .int .i64 129, .int .i64 160, .int .i64 255]) (ok := fun _ => True) (okp := fun _ => True) ?hr ?hp (fun _ hk => hk) trivial (Below.refl _ _) (Nat.le_refl _) zq134 ?_; (case hd => rfl); (case hg => rfl); (case hr => first | (go_simp; done) | (go_simp; rfl)); (case hp => exact (Reps.one (show Kd.M (Kd.int .i64) _ _ _ 0 [.int .i64 0] from rfl) (Reps.one (show Kd.M (Kd.int .i64) _ _ _ 1 [.int .i64 1] from rfl) (Reps.one (show Kd.M (Kd.int .i64) _ _ _ 2 [.int .i64 2] from rfl) (Reps.one (show Kd.M (Kd.int .i64) _ _ _ 4 [.int .i64 4] from rfl) (Reps.one (show Kd.M (Kd.int .i64) _ _ _ 5 [.int .i64 5] from rfl) (Reps.one (show Kd.M (Kd.int .i64) _ _ _ 6 [.int .i64 6] from rfl) (Reps.one (show Kd.M (Kd.int .i64) _ _ _ 48 [.int .i64 48] from rfl) (Reps.one (show Kd.M (Kd.int .i64) _ _ _ 127 [.int .i64 127] from rfl) (Reps.one (show Kd.M (Kd.int .i64) _ _ _ 128 [.int .i64 128] from rfl) (Reps.one (show Kd.M (Kd.int .i64) _ _ _ 129 [.int .i64 129] from rfl) (Reps.one (show Kd.M (Kd.int .i64) _ _ _ 160 [.int .i64 160] from rfl) (Reps.one (show Kd.M (Kd.int .i64) _ _ _ 255 [.int .i64 255] from rfl) (Reps.none _ _)))))))))))))); intro v473 w22 ho23 hb hg_ hnew_; clear hg_ hnew_; (first | rw [← Ny472.out] at ho23 | (simp only [Int.reduceToNat] at ho23; rw [← Ny472.out] at ho23)); replace HO1 := zA (Kd.R_below zq94 hb); have HO474 := zA (Kd.R_lower (Kd.R_newM (M := fun k_ => (P1_ k_ ∨ w.heap.size ≤ k_)) ho23 zq174 (fun k_ h_ => .inr h_)) (below_size zq5)); replace HK := zA (Kept.below (S := (fun k_ => (P1_ k_) ∨ k_ = g)) zq37 hb); replace HB := zA (below_step zq5 hb); replace HI0 := zA (IsS170.below zq4 hb); clear hb ho23; obtain ⟨Ao24, co24, eo24⟩ := Kd.R_slice HO474.out; subst eo24) | ((with_reducible refine gate_callee (f := 140) rfl ?_); refine goesL_ (some 20) rfl rfl Try.func140 (by kernel_rfl) rfl #[.pointer (some ⟨g, 0, none⟩), .slice Ao24 y472.length co24] rfl zq1 ?_; (with_reducible refine (spec_l1Int.calls g s0_0 t470 t471 _ _ y472 t475 t476 t477 w0 _ ?side1 ?side2 ?side3 ?side4 ?side5 A16.out).mono ?_); (case side1 => repeat (first | (with_reducible first | exact HI0.out | apply IsS170.alloc | apply IsS170.drewN | apply IsS170.drew | apply IsS170.set_1 | apply IsS170.set_2) | exact HI0.out)); (case side2 => repeat (first | (with_reducible first | exact HB.out | apply below_alloc | apply pw_below_drewN | apply below_drew1 | refine below_set ?_ (IsS170.ge HI0.out)) | exact HB.out)); (case side3 => repeat (first | exact (Kd.R_reads' HO474.out).2.2 | (with_reducible refine Kd.C_alloc ?_ _) | (with_reducible refine Kd.C_drewN ?_ _) | (with_reducible refine Kd.C_drew ?_))); (case side4 => exact (Kd.R_reads' HO474.out).2.1); (case side5 => exact far_slice (IsS170.own_ne HI0.out HO474.out zq39)); rintro e w25 ⟨rfl, hi, hb, hk⟩; refine ⟨_, rfl, ?_⟩; replace HO1 := zA (Kd.R_mono (Kd.R_keep (IsS170.apart (show IsS170 w0 _ g s0_0 t470 t471 from by repeat (first | (with_reducible first | exact HI0.out | apply IsS170.alloc | apply IsS170.drewN | apply IsS170.drew | apply IsS170.set_1 | apply IsS170.set_2) | exact HI0.out)) zq94 zq39) hk (fun _ h => h.2)) (fun _ h => h.1)); replace HO474 := zA (Kd.R_mono (Kd.R_keep (IsS170.apart (show IsS170 w0 _ g s0_0 t470 t471 from by repeat (first | (with_reducible first | exact HI0.out | apply IsS170.alloc | apply IsS170.drewN | apply IsS170.drew | apply IsS170.set_1 | apply IsS170.set_2) | exact HI0.out)) zq213 zq39) hk (fun _ h => h.2)) (fun _ h => h.1)); replace HK := zA (Kept.of_keep (S := (fun k_ => (P1_ k_) ∨ k_ = g)) zq37 hk (.inl (.inr rfl))); replace HB := zA (hb); replace HI0 := zA (hi); clear hb hk hi; have p19 : 0 ≤ (t469 : Int) := of_decide_eq_true zq7; have q19 : (t469 : Int) < ((l1.length : Int) : Int) := of_decide_eq_true zq7; obtain ⟨go19, co19, eo19, gb19, gl19, cl19, HG19⟩ := Kd.R_form HO1.out zq144; (first | cases eo19 | (injection eo19 with ea_ en_ ec_; (first | subst ea_ | (injection ea_ with ea_; subst ea_)); subst ec_; clear en_)); have GB19 := zA gb19; have GG19 := zA HG19; clear gb19 gl19 HG19; have HMgo19 := zA (show (P1_ go19 ∨ w.heap.size ≤ go19) from (HO1.out.1 _ rfl)); obtain ⟨hx19_0, hf19_0⟩ := Kd.R_celln 0 HO1.out (t469 : Int) p19 q19; replace p19 := eq_true p19; replace q19 := eq_true q19; obtain ⟨hy26_, hz26_⟩ := Kd.R_celln 0 HO1.out (t469 : Int) (of_decide_eq_true zq7) (of_decide_eq_true zq7); have HP26 := Kd.R_putg HO1.out (t469 : Int) ((t475) % 256)) | ((with_reducible refine gate_store (t := 5) (p := 22) rfl ?_); refine store_event (t := 5) (p := 22) (v := ?vo_w27) (w1 := (w25.setCell ⟨go19, (t469 : Int).toNat, none⟩ (.int .u8 ((t475) % 256)))) ?hg ?ho ?hn ?hr ?_; (case ho => rfl); (case hg => rfl); (case hn => rfl); (case hr => first | (go_simp; done) | (go_simp; rfl)); intro w27 hw; have hg : w25.grownBy w27 (some go19) := (by rw [hw]; exact HP26.2); have hp_ : Kd.R (Kd.int .u8) 5 w27 w0.heap.size (fun k_ => (P1_ k_ ∨ w.heap.size ≤ k_)) (.slice (some ⟨go19, 0, none⟩) l1.length co9) y478 := (by rw [hw, Ny478.out]; exact HP26.1); clear HP26; replace HI0 := zA (IsS170.grown zq4 hg (IsS170.own_ne HI0.out HO1.out zq39)); replace HO474 := zA (Kd.R_over' (v := (.slice (some ⟨go19, 0, none⟩) l1.length co9)) zq213 (Kd.R_typed HO1.out) zq39 hg); replace HB := zA ((by rw [hw]; exact below_set (HB.out) GB19.out : Below w0.heap.size w0 w27)); replace HK := zA (Kept.of_grown (S := (fun k_ => (P1_ k_) ∨ k_ = g)) hg zq37 (fun k_ e_ => Or.imp_left Or.inl ((HO1.out.1 k_ e_)))); replace HO1 := zA (hp_); clear hg hw hp_))
   (try simp only [Act.put, List.setIfInBounds_toArray, List.set_cons_zero, List.set_cons_succ])
   have H := HC20.out
   clear HC20
   simp only [Option.some.injEq, Prod.mk.injEq] at H
   obtain ⟨rfl, rfl, rfl⟩ := H
   go_wp2
   go_ret
   exact ⟨_, zq2, zq94, zq4, zq5, zq37⟩
  ·rw [if_neg c13] at H
   have c13b0 : (t466 == 0) = false := beq_eq_false_iff_ne.mpr c13
   have c13b1 : (t466 != 0) = true := bne_iff_ne.mpr c13
   have HC28 := zA H
   clear H
   go_upto_region 6 with (fail)
   have H := HC28.out
   clear HC28
   by_cases c29 : t466 = 1
   ·rw [if_pos c29] at H
    have c29b0 : (t466 == 1) = true := beq_iff_eq.mpr c29
    have c29b1 : (t466 != 1) = false := bne_eq_false_iff_eq.mpr c29
    clear c29
    have HC30 := zA H
    clear H
    go_upto_region 7 with (fail)
    have H := HC30.out
    clear HC30
    obtain ⟨c31, H⟩ := zN H
    have LMc31 := zA c31
    clear c31
    obtain ⟨y479, hy479⟩ : ∃ y_ : List Int, y_ = (l1 ++ [3]) := ⟨_, rfl⟩
    rw [← hy479] at H
    have Ny479 := zA hy479
    clear hy479
    have HC32 := zA H
    clear H
    go_upto_region 10 with (first | ((with_reducible refine gate_builtin (b := .append) (xs := #[.tmp 25, .tmp 26]) rfl ?_); at_builtin; refine Kd.R_append (Kd.int .u8) (w0 := w0) w0.heap.size rfl (.tmp 25) (.tmp 26) 22 5 (.int .u8 0) 1 rfl Try.underlying22 info5 rfl zq39 zq144 (.slice Ao9 l1.length co9) l1 3 [.int .u8 3] (fun k_ => (P1_ k_ ∨ w.heap.size ≤ k_)) (fun _ => False) rfl rfl ?aP (fun _ hk => hk.elim) ?aF ?aO ?aB ?aS ?aL ?_; (case aP => exact rfl); (case aB => exact zq5); (case aF => exact (fun k_ hk => (.inr (Nat.le_trans zq174 hk)))); (case aO => exact zq94); (case aS => exact (below_size zq5)); (case aL => have := LMc31.out; omega); intro v480 w33 ho hb hg hat; rw [← Ny479.out] at ho; replace HI0 := zA (IsS170.grown zq4 hg (IsS170.own_ne HI0.out HO1.out zq39)); replace HB := zA (hb); replace HK := zA (Kept.of_grown (S := (fun k_ => (P1_ k_) ∨ k_ = g)) hg zq37 (fun k_ e_ => Or.imp_left Or.inl ((HO1.out.1 k_ e_)))); have HO481 := zA (ho); clear HO1; clear ho hb hg hat))
    (try simp only [Act.put, List.setIfInBounds_toArray, List.set_cons_zero, List.set_cons_succ])
    have H := HC32.out
    clear HC32
    simp only [Option.some.injEq, Prod.mk.injEq] at H
    obtain ⟨rfl, rfl, rfl⟩ := H
    go_wp2
    go_ret
    exact ⟨_, zq2, (by (with_reducible repeat (first | apply Kd.R_alloc | apply Kd.R_drewN | apply Kd.R_drew)); exact HO481.out), zq4, zq5, zq37⟩
   ·rw [if_neg c29] at H
    have c29b0 : (t466 == 1) = false := beq_eq_false_iff_ne.mpr c29
    have c29b1 : (t466 != 1) = true := bne_iff_ne.mpr c29
    have HC34 := zA H
    clear H
    go_upto_region 8 with (fail)
    have H := HC34.out
    clear HC34
    by_cases c35 : t466 = 2
    ·rw [if_pos c35] at H
     have c35b0 : (t466 == 2) = true := beq_iff_eq.mpr c35
     have c35b1 : (t466 != 2) = false := bne_eq_false_iff_eq.mpr c35
     clear c35
     have HC36 := zA H
     clear H
     go_upto_region 9 with (fail)
     have H := HC36.out
     clear HC36
     obtain ⟨⟨t482, t483, t484⟩, A37, H⟩ := zB H
     try dsimp only at H
     obtain ⟨c38, H⟩ := zN H
     have c38b0 := eq_true c38
     have c38b1 : decide (0 ≤ t482) = true := decide_eq_true c38
     clear c38
     obtain ⟨c39, H⟩ := zN H
     have c39b0 := eq_true c39
     have c39b1 : decide (t482 ≤ (l1.length : Int)) = true := decide_eq_true c39
     clear c39
     obtain ⟨y485, hy485⟩ : ∃ y_ : List Int, y_ = (l1.take (t482 : Int).toNat) := ⟨_, rfl⟩
     rw [← hy485] at H
     have Ny485 := zA hy485
     clear hy485
     have HC40 := zA H
     clear H
     go_upto_region 10 with (first | ((with_reducible refine gate_callee (f := 131) rfl ?_); refine goesL_ (some 34) rfl rfl Try.func131 (by kernel_rfl) rfl #[.pointer (some ⟨g, 0, none⟩), .int .i64 (l1.length : Int)] rfl zq1 ?_; (with_reducible refine (spec_l1Below.calls g s0_0 t467 t468 (l1.length : Int) t482 t483 t484 w0 _ ?side1 ?side2 A37.out).mono ?_); (case side1 => repeat (first | (with_reducible first | exact HI0.out | apply IsS170.alloc | apply IsS170.drewN | apply IsS170.drew | apply IsS170.set_1 | apply IsS170.set_2) | exact HI0.out)); (case side2 => repeat (first | (with_reducible first | exact HB.out | apply below_alloc | apply pw_below_drewN | apply below_drew1 | refine below_set ?_ (IsS170.ge HI0.out)) | exact HB.out)); rintro e w41 ⟨rfl, hi, hb, hk⟩; refine ⟨_, rfl, ?_⟩; replace HO1 := zA (Kd.R_mono (Kd.R_keep (IsS170.apart (show IsS170 w0 _ g s0_0 t467 t468 from by repeat (first | (with_reducible first | exact HI0.out | apply IsS170.alloc | apply IsS170.drewN | apply IsS170.drew | apply IsS170.set_1 | apply IsS170.set_2) | exact HI0.out)) zq94 zq39) hk (fun _ h => h.2)) (fun _ h => h.1)); replace HK := zA (Kept.of_keep (S := (fun k_ => (P1_ k_) ∨ k_ = g)) zq37 hk (.inl (.inr rfl))); replace HB := zA (hb); replace HI0 := zA (hi); clear hb hk hi; have q42 : (t482 : Int) ≤ ((l1.length : Int) : Int) := of_decide_eq_true zq7; obtain ⟨i042, hi042, _, hsz42, _⟩ := info_parts info5; have hcut42 := cut_to (P := Try.prog) 22 5 .i64 Try.underlying22 hi042 Ao9 l1.length co9 t482 (of_decide_eq_true zq7) q42 (Kd.R_reads' HO1.out).2.1; have hr42 := Kd.R_take (m := (t482 : Int).toNat) HO1.out zq144; have hy42 : y485.length = (t482 : Int).toNat := (by rw [Ny485.out, List.length_take]; omega); rw [← Ny485.out] at hr42; rw [← hy42] at hr42 hcut42; clear hy42 hi042 hsz42 HO1; have HO487 := zA hr42; clear hr42; replace q42 := eq_true q42))
     (try simp only [Act.put, List.setIfInBounds_toArray, List.set_cons_zero, List.set_cons_succ])
     have H := HC40.out
     clear HC40
     simp only [Option.some.injEq, Prod.mk.injEq] at H
     obtain ⟨rfl, rfl, rfl⟩ := H
     go_wp2
     go_ret
     exact ⟨_, zq2, (by (with_reducible repeat (first | apply Kd.R_alloc | apply Kd.R_drewN | apply Kd.R_drew)); exact HO487.out), zq4, zq5, zq37⟩
    ·rw [if_neg c35] at H
     have c35b0 : (t466 == 2) = false := beq_eq_false_iff_ne.mpr c35
     have c35b1 : (t466 != 2) = true := bne_iff_ne.mpr c35
     have HC43 := zA H
     clear H
     go_upto_region 10 with (fail)
     have H := HC43.out
     clear HC43
     simp only [Option.some.injEq, Prod.mk.injEq] at H
     obtain ⟨rfl, rfl, rfl⟩ := H
     go_wp2
     go_ret
     exact ⟨_, zq2, zq94, zq4, zq5, zq37⟩

/-! ### spec_l1At: function 169 -/
def spec_l1At.f (s0_0 : List Int) (s0_1 : Int) (s0_2 : Int) (l1 : List Int) : Option (Int × Int × Int) := (spec_l1Below.f s0_0 s0_1 s0_2 (wrap64 ((l1.length : Int) + 1))).bind fun bt488 => ((spec_l1Int.f s0_0 bt488.2.1 bt488.2.2 (([0, 0, 0, (l1.length : Int), bt488.1, (-1), 9223372036854775807] : List Int))).bind fun bt494 => (some (bt494.1, bt494.2.1, bt494.2.2)))
set_option maxHeartbeats 8000000 in
set_option maxRecDepth 100000 in
theorem spec_l1At.calls (g : Nat) (s0_0 : List Int) (s0_1 : Int) (s0_2 : Int) (A1 : Option Addr) (c1 : Nat) (l1 : List Int) (r1 : Int) (r2 : Int) (r3 : Int) (w0 w : World) (hI : IsS170 w0 w g s0_0 s0_1 s0_2) (hB : Below w0.heap.size w0 w) (hr1 : Kd.C (Kd.int .u8) w A1 l1.length l1) (hc1 : l1.length ≤ c1) (hf1 : ∀ ad, A1 = some ad → 0 < l1.length → ad.block ≠ g) (h : spec_l1At.f s0_0 s0_1 s0_2 l1 = some (r1, r2, r3)) :
  Calls Try.prog 169 #[.pointer (some ⟨g, 0, none⟩), .slice A1 l1.length c1] w fun e w' => e = .returned (.int .i64 r1) ∧ IsS170 w0 w' g s0_0 r2 r3 ∧ Below w0.heap.size w0 w' ∧ KeepBut w w' g none := by
 have HR1 := zA hr1
 have HC1 := zA hc1
 clear hr1 hc1
 have HI0 := zA hI
 have HK := zA (KeepBut.refl w g none)
 have HL := zA hB.size
 clear hI
 have HW0 := zA hB.size
 have HB := zA hB
 clear hB
 unfold spec_l1At.f at h
 have H := h
 clear h
 have HC3 := zA H
 clear H
 go_enter Try.func169, Try.ntmps169
 go_upto_region 0 with (fail)
 have H := HC3.out
 clear HC3
 have HC4 := zA H
 clear H
 go_upto_region 1 with (fail)
 have H := HC4.out
 clear HC4
 obtain ⟨⟨t488, t489, t490⟩, A5, H⟩ := zB H
 try dsimp only at H
 obtain ⟨y491, hy491⟩ : ∃ y_ : List Int, y_ = (([0, 0, 0, (l1.length : Int), t488, (-1), 9223372036854775807] : List Int)) := ⟨_, rfl⟩
 rw [← hy491] at H
 have Ny491 := zA hy491
 clear hy491
 obtain ⟨⟨t494, t495, t496⟩, A6, H⟩ := zB H
 try dsimp only at H
 simp only [Option.some.injEq, Prod.mk.injEq] at H
 obtain ⟨rfl, rfl, rfl⟩ := H
 go_wp2_with (first | ((with_reducible refine gate_callee (f := 131) rfl ?_); refine goesL_ (some 12) rfl rfl Try.func131 (by kernel_rfl) rfl #[.pointer (some ⟨g, 0, none⟩), .int .i64 (wrap64 ((l1.length : Int) + 1))] rfl zq1 ?_; (with_reducible refine (spec_l1Below.calls g s0_0 s0_1 s0_2 (wrap64 ((l1.length : Int) + 1)) t488 t489 t490 w0 _ ?side1 ?side2 A5.out).mono ?_); (case side1 => repeat (first | (with_reducible first | exact HI0.out | apply IsS170.alloc | apply IsS170.drewN | apply IsS170.drew | apply IsS170.set_1 | apply IsS170.set_2) | exact HI0.out)); (case side2 => repeat (first | (with_reducible first | exact HB.out | apply below_alloc | apply pw_below_drewN | apply below_drew1 | refine below_set ?_ (IsS170.ge HI0.out)) | exact HB.out)); rintro e w7 ⟨rfl, hi, hb, hk⟩; refine ⟨_, rfl, ?_⟩; replace HK := zA (KeepBut.trans zq3 hk (.inl rfl)); replace HB := zA (hb); replace HI0 := zA (hi); clear hb hk hi) | ((with_reducible refine gate_dst (N := 13) rfl ?_); refine Kd.R_lit (Kd.int .i64) _ 3 ?hg (N := 13) ?hd (xs := ([0, 0, 0, (l1.length : Int), t488, (-1), 9223372036854775807] : List Int)) (inner := [.int .i64 0, .int .i64 0, .int .i64 0, .int .i64 (l1.length : Int), .int .i64 t488, .int .i64 (-1), .int .i64 9223372036854775807]) (ok := fun _ => True) (okp := fun _ => True) ?hr ?hp (fun _ hk => hk) trivial (Below.refl _ _) (Nat.le_refl _) zq134 ?_; (case hd => rfl); (case hg => rfl); (case hr => first | (go_simp; done) | (go_simp; rfl)); (case hp => exact (Reps.one (show Kd.M (Kd.int .i64) _ _ _ 0 [.int .i64 0] from rfl) (Reps.one (show Kd.M (Kd.int .i64) _ _ _ 0 [.int .i64 0] from rfl) (Reps.one (show Kd.M (Kd.int .i64) _ _ _ 0 [.int .i64 0] from rfl) (Reps.one (show Kd.M (Kd.int .i64) _ _ _ (l1.length : Int) [.int .i64 (l1.length : Int)] from rfl) (Reps.one (show Kd.M (Kd.int .i64) _ _ _ t488 [.int .i64 t488] from rfl) (Reps.one (show Kd.M (Kd.int .i64) _ _ _ (-1) [.int .i64 (-1)] from rfl) (Reps.one (show Kd.M (Kd.int .i64) _ _ _ 9223372036854775807 [.int .i64 9223372036854775807] from rfl) (Reps.none _ _))))))))); intro v492 w8 ho9 hb hg_ hnew_; clear hg_ hnew_; (first | rw [← Ny491.out] at ho9 | (simp only [Int.reduceToNat] at ho9; rw [← Ny491.out] at ho9)); have HO493 := zA (Kd.R_lower ho9 (keep_size (w := w) (g := g) (row := none) zq3)); replace HK := zA (KeepBut.trans zq3 (KeepBut.of_below hb g none) (.inl rfl)); replace HB := zA (below_step zq5 hb); replace HI0 := zA (IsS170.below zq4 hb); clear hb ho9; obtain ⟨Ao10, co10, eo10⟩ := Kd.R_slice HO493.out; subst eo10) | ((with_reducible refine gate_callee (f := 140) rfl ?_); refine goesL_ (some 14) rfl rfl Try.func140 (by kernel_rfl) rfl #[.pointer (some ⟨g, 0, none⟩), .slice Ao10 y491.length co10] rfl zq1 ?_; (with_reducible refine (spec_l1Int.calls g s0_0 t489 t490 _ _ y491 t494 t495 t496 w0 _ ?side1 ?side2 ?side3 ?side4 ?side5 A6.out).mono ?_); (case side1 => repeat (first | (with_reducible first | exact HI0.out | apply IsS170.alloc | apply IsS170.drewN | apply IsS170.drew | apply IsS170.set_1 | apply IsS170.set_2) | exact HI0.out)); (case side2 => repeat (first | (with_reducible first | exact HB.out | apply below_alloc | apply pw_below_drewN | apply below_drew1 | refine below_set ?_ (IsS170.ge HI0.out)) | exact HB.out)); (case side3 => repeat (first | exact (Kd.R_reads' HO493.out).2.2 | (with_reducible refine Kd.C_alloc ?_ _) | (with_reducible refine Kd.C_drewN ?_ _) | (with_reducible refine Kd.C_drew ?_))); (case side4 => exact (Kd.R_reads' HO493.out).2.1); (case side5 => exact far_slice (IsS170.own_ne HI0.out HO493.out zq39)); rintro e w11 ⟨rfl, hi, hb, hk⟩; refine ⟨_, rfl, ?_⟩; replace HO493 := zA (Kd.R_mono (Kd.R_keep (IsS170.apart (show IsS170 w0 _ g s0_0 t489 t490 from by repeat (first | (with_reducible first | exact HI0.out | apply IsS170.alloc | apply IsS170.drewN | apply IsS170.drew | apply IsS170.set_1 | apply IsS170.set_2) | exact HI0.out)) (by (with_reducible repeat (first | apply Kd.R_alloc | apply Kd.R_drewN | apply Kd.R_drew)); exact HO493.out) zq39) hk (fun _ h => h.2)) (fun _ h => h.1)); replace HK := zA (KeepBut.trans zq3 hk (.inl rfl)); replace HB := zA (hb); replace HI0 := zA (hi); clear hb hk hi))
 go_ret
 exact ⟨zq2, zq4, zq5, zq3⟩

end Go.Proofs.Ytkcgghgkmgbphaa.PFnVals
