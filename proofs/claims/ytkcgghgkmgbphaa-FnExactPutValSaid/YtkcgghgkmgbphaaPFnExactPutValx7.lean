-- WRITTEN BY a turned copy of the kit's printer (wip/patch_print.py), for this claim
import Derived.Test.YtkcgghgkmgbphaaPFnExactPutValx0
import Derived.Test.YtkcgghgkmgbphaaPFnExactPutValx4
import Derived.Test.YtkcgghgkmgbphaaPFnExactPutValx5
import Derived.Test.YtkcgghgkmgbphaaPFnExactPutValx6
namespace Go.Proofs.Ytkcgghgkmgbphaa.PFnExactPutVal
open Go.RowKit Go.Proofs.YtkcgghgkmgbphaaW.PrintWords Go.Proofs.YtkcgghgkmgbphaaW.PrintLast Go.Proofs.YtkcgghgkmgbphaaW.PrintMore
attribute [local go_sem] max2_int min2_int max_two min_two max_three min_three max_four min_four   -- for this text's walks alone
set_option linter.unusedVariables false
set_option linter.unusedSimpArgs false

attribute [local go_sem] cell_setCell_m
/-! ### impl_PutInt: function 156 -/
mutual
def impl_PutInt.j1 : Nat → Int → Int → Option (List Int)
 | 0, _, _ => none
 | k + 1, x0, x3 => impl_PutInt.l1 k x0 ([] : List Int) (wrap64 (x3 - 1))
def impl_PutInt.l1 : Nat → Int → List Int → Int → Option (List Int)
 | 0, _, _, _ => none
 | k + 1, x0, x4, x5 => if x5 ≥ 0 then (if 0 ≤ (wrap64 (8 * x5)) then (if x4.length < 140737488355328 then (impl_PutInt.l1 k x0 (x4 ++ [(shr .i64 x0 (wrap64 (8 * x5))) % 256]) (wrap64 (x5 - 1))) else (none)) else (none)) else (some x4)
def impl_PutInt.l0 : Nat → Int → Int → Option (List Int)
 | 0, _, _ => none
 | k + 1, x0, x3 => if x3 < 4 then (if 0 ≤ (wrap64 ((wrap64 (8 * x3)) - 1)) then ((impl_in.f x0 (shl .i64 (-1) (wrap64 ((wrap64 (8 * x3)) - 1))) (wrap64 ((shl .i64 1 (wrap64 ((wrap64 (8 * x3)) - 1))) - 1))).bind fun t280 => (if t280 = true then (impl_PutInt.j1 k x0 x3) else (impl_PutInt.l0 k x0 (wrap64 (x3 + 1))))) else (none)) else (impl_PutInt.j1 k x0 x3)
end
def impl_PutInt.f (k : Nat) (a0 : Int) : Option (List Int) := impl_PutInt.l0 k (mx (-2147483648) (mn a0 2147483647)) 1
theorem impl_PutInt.mono_l : ∀ k, (∀ y0 y1, LeO (impl_PutInt.j1 k y0 y1) (impl_PutInt.j1 (k + 1) y0 y1)) ∧ (∀ y0 y1 y2, LeO (impl_PutInt.l1 k y0 y1 y2) (impl_PutInt.l1 (k + 1) y0 y1 y2)) ∧ (∀ y0 y1, LeO (impl_PutInt.l0 k y0 y1) (impl_PutInt.l0 (k + 1) y0 y1))
 | 0 => ⟨fun _ _ r h => by simp [impl_PutInt.j1] at h, fun _ _ _ r h => by simp [impl_PutInt.l1] at h, fun _ _ r h => by simp [impl_PutInt.l0] at h⟩
 | k + 1 => by
  obtain ⟨ih0, ih1, ih2⟩ := impl_PutInt.mono_l k
  refine ⟨?_, ?_, ?_⟩
  ·intro y0 y1
   unfold impl_PutInt.j1
   exact zR
  ·intro y0 y1 y2
   unfold impl_PutInt.l1
   exact zR
  ·intro y0 y1
   unfold impl_PutInt.l0
   exact zR
theorem impl_PutInt.mono : ∀ a0 k, LeO (impl_PutInt.f k a0) (impl_PutInt.f (k + 1) a0) := by
 intro a0 k
 obtain ⟨ih0, ih1, ih2⟩ := impl_PutInt.mono_l k
 unfold impl_PutInt.f
 exact zR
set_option maxHeartbeats 8000000 in
set_option maxRecDepth 100000 in
theorem impl_PutInt.calls (k : Nat) (a0 : Int) (r : List Int) (w : World) (h : impl_PutInt.f k a0 = some r) :
  Calls Try.prog 156 #[.int .i64 a0] w fun e w' => ∃ v0_ : Value, e = .returned (v0_) ∧ Kd.R (Kd.int .u8) 5 w' w.heap.size (fun _ => True) v0_ r ∧ Below w.heap.size w w' := by
 have HB := zA (Below.refl w.heap.size w)
 unfold impl_PutInt.f at h
 have H := h
 clear h
 have HC2 := zA H
 clear H
 go_enter Try.func156, Try.ntmps156
 go_upto_region 0 with (fail)
 repeat (go_quiet (fail); go_upto_region 0 with (fail))
 have H := HC2.out
 clear HC2
 have HC3 := zA H
 clear H
 go_upto_region 1 with (fail)
 repeat (go_quiet (fail); go_upto_region 1 with (fail))
 have H := HC3.out
 clear HC3
 obtain ⟨ji4, hji4⟩ : ∃ j_ : Int, (mn a0 2147483647) = j_ := ⟨_, rfl⟩
 replace H : (impl_PutInt.l0 k (mx (-2147483648) (ji4)) 1) = some r := by first | (rw [hji4] at H; exact H) | (simp only [hji4] at H ⊢; exact H)
 (try (have hji4h : ji4 ≤ 2147483647 := by (rw [← hji4]; unfold mn; (repeat' split) <;> omega)))
 (try (have hji4g : ji4 ≤ 64 := by omega))
 have hji4_ : (if 2147483647 < a0 then 2147483647 else a0) = ji4 := hji4
 obtain ⟨ji5, hji5⟩ : ∃ j_ : Int, (mx (-2147483648) (ji4)) = j_ := ⟨_, rfl⟩
 replace H : (impl_PutInt.l0 k ji5 1) = some r := by first | (rw [hji5] at H; exact H) | (simp only [hji5] at H ⊢; exact H)
 have hji5_ : (if (-2147483648) < (ji4) then (ji4) else (-2147483648)) = ji5 := hji5
 have HC6 := zA H
 clear H
 go_upto_region 2 with (fail)
 repeat (go_quiet (fail); go_upto_region 2 with (fail))
 have H := HC6.out
 clear HC6
 have HC7 := zA H
 clear H
 go_upto_block 0 with (fail)
 repeat (go_quiet (fail); go_upto_block 0 with (fail))
 go_cut [3] (fun v3 wc => ∃ (kq : Nat) (x3_6 : Int), v3 = .int .i64 x3_6 ∧ Aside0 (impl_PutInt.j1 kq ji5 x3_6 = some r) ∧ Aside0 (kq ≤ k) ∧ Aside0 (Below w.heap.size w wc))
 case first =>
  have H := HC7.out
  clear HC7
  have H' := zA H
  clear H
  go_wp2
  repeat (go_quiet (fail); try go_wp2)
  go_loopg [3] k (fun kq v3 w' => ∃ (x3_1 : Int), v3 = .int .i64 x3_1 ∧ Aside0 (impl_PutInt.l0 kq ji5 x3_1 = some r) ∧ Aside0 (kq ≤ k) ∧ Aside0 (Below w.heap.size w w'))
  case atStart => exact ⟨(1), zq8, H', ⟨Nat.le_refl _⟩, ⟨zq0⟩⟩
  case round =>
   clear H'
   try clear c1
   try clear p2
   obtain ⟨x3_1, rfl, HA, HK1, HB⟩ := hrel
   cases gk with
   | zero => exact absurd HA.out (by simp [impl_PutInt.l0])
   | succ k1 =>
    have H := HA.out
    clear HA
    simp only [impl_PutInt.l0] at H
    have HC8 := zA H
    clear H
    go_upto_region 3 with (fail)
    repeat (go_quiet (fail); go_upto_region 3 with (fail))
    have H := HC8.out
    clear HC8
    by_cases c9 : x3_1 < 4
    ·rw [if_pos c9] at H
     have c9b0 : decide (x3_1 < 4) = true := decide_eq_true c9
     clear c9
     (first | rw [c9b0] | (simp only [i64_w, i32_w]; rw [c9b0]) | skip)
     obtain ⟨ji10, hji10⟩ : ∃ j_ : Int, (wrap64 ((wrap64 (8 * x3_1)) - 1)) = j_ := ⟨_, rfl⟩
     replace H : (if 0 ≤ (ji10) then ((impl_in.f ji5 (shl .i64 (-1) (ji10)) (wrap64 ((shl .i64 1 (ji10)) - 1))).bind fun t280 => (if t280 = true then (impl_PutInt.j1 k1 ji5 x3_1) else (impl_PutInt.l0 k1 ji5 (wrap64 (x3_1 + 1))))) else (none)) = some r := by first | (rw [hji10] at H; exact H) | (simp only [hji10] at H ⊢; exact H)
     have hji10w : (IntKind.i64.wrap ((wrap64 (8 * x3_1)) - 1)) = ji10 := (i64_w _).trans hji10
     have hji10W : (IntKind.i64.wrap ((IntKind.i64.wrap (8 * x3_1)) - 1)) = ji10 := by simp only [i64_w]; exact hji10
     obtain ⟨c11, H⟩ := zN H
     have c11b0 := eq_true c11
     have c11b1 : decide (0 ≤ (ji10)) = true := decide_eq_true c11
     clear c11
     obtain ⟨ji12, hji12⟩ : ∃ j_ : Int, (shl .i64 (-1) (ji10)) = j_ := ⟨_, rfl⟩
     replace H : ((impl_in.f ji5 (ji12) (wrap64 ((shl .i64 1 (ji10)) - 1))).bind fun t280 => (if t280 = true then (impl_PutInt.j1 k1 ji5 x3_1) else (impl_PutInt.l0 k1 ji5 (wrap64 (x3_1 + 1))))) = some r := by first | (rw [hji12] at H; exact H) | (simp only [hji12] at H ⊢; exact H)
     have hji12_ : (IntKind.i64.wrap ((-1) * 2 ^ min (ji10).toNat 64)) = ji12 := hji12
     have hji12z : (ji10) ≤ 64 → (IntKind.i64.wrap ((-1) * 2 ^ (ji10).toNat)) = ji12 := shl_small hji12
     have hji12u : (IntKind.i64.wrap (-2 ^ min (ji10).toNat 64)) = ji12 := by have h_ := hji12_; rw [Int.neg_one_mul] at h_; exact h_
     have hji12v : (ji10) ≤ 64 → (IntKind.i64.wrap (-2 ^ (ji10).toNat)) = ji12 := fun hle_ => by have h_ := hji12z hle_; rw [Int.neg_one_mul] at h_; exact h_
     have hji12y : (wrap64 ((-1) * 2 ^ min (ji10).toNat 64)) = ji12 := (i64_w _).symm.trans hji12_
     have hji12x : (ji10) ≤ 64 → (wrap64 ((-1) * 2 ^ (ji10).toNat)) = ji12 := fun h_ => (i64_w _).symm.trans (hji12z h_)
     have c13b0 := eq_true (of_decide_eq_true zq9 : 0 ≤ (ji10))
     obtain ⟨ji14, hji14⟩ : ∃ j_ : Int, (shl .i64 1 (ji10)) = j_ := ⟨_, rfl⟩
     replace H : ((impl_in.f ji5 (ji12) (wrap64 ((ji14) - 1))).bind fun t280 => (if t280 = true then (impl_PutInt.j1 k1 ji5 x3_1) else (impl_PutInt.l0 k1 ji5 (wrap64 (x3_1 + 1))))) = some r := by first | (rw [hji14] at H; exact H) | (simp only [hji14] at H ⊢; exact H)
     have hji14_ : (IntKind.i64.wrap (1 * 2 ^ min (ji10).toNat 64)) = ji14 := hji14
     have hji14z : (ji10) ≤ 64 → (IntKind.i64.wrap (1 * 2 ^ (ji10).toNat)) = ji14 := shl_small hji14
     have hji14u : (IntKind.i64.wrap (2 ^ min (ji10).toNat 64)) = ji14 := by have h_ := hji14_; rw [Int.one_mul] at h_; exact h_
     have hji14v : (ji10) ≤ 64 → (IntKind.i64.wrap (2 ^ (ji10).toNat)) = ji14 := fun hle_ => by have h_ := hji14z hle_; rw [Int.one_mul] at h_; exact h_
     have hji14y : (wrap64 (1 * 2 ^ min (ji10).toNat 64)) = ji14 := (i64_w _).symm.trans hji14_
     have hji14x : (ji10) ≤ 64 → (wrap64 (1 * 2 ^ (ji10).toNat)) = ji14 := fun h_ => (i64_w _).symm.trans (hji14z h_)
     obtain ⟨t280, A15, H⟩ := zB H
     try dsimp only at H
     by_cases c16 : t280 = true
     ·subst c16
      rw [if_pos rfl] at H
      have H' := zA H
      clear H
      go_wp2_with (first | (go_at_call 122; refine calls_of_args (args' := #[.int .i64 ji5, .int .i64 ji12, .int .i64 (wrap64 ((ji14) - 1))]) zq41 ?_; (with_reducible refine (impl_in.calls ji5 ji12 (wrap64 ((ji14) - 1)) true _ A15.out).mono ?_); rintro e w' ⟨rfl, ⟨nd, rfl⟩⟩; (try first | exact ⟨rfl, _, World.drewN_drewN _ _ _⟩ | exact ⟨rfl, _, Eq.trans (World.drewN_drewN _ _ _) (congrArg (World.drewN _) (Nat.add_assoc _ _ _))⟩)))
      repeat (go_quiet (first | (go_at_call 122; refine calls_of_args (args' := #[.int .i64 ji5, .int .i64 ji12, .int .i64 (wrap64 ((ji14) - 1))]) zq41 ?_; (with_reducible refine (impl_in.calls ji5 ji12 (wrap64 ((ji14) - 1)) true _ A15.out).mono ?_); rintro e w' ⟨rfl, ⟨nd, rfl⟩⟩; (try first | exact ⟨rfl, _, World.drewN_drewN _ _ _⟩ | exact ⟨rfl, _, Eq.trans (World.drewN_drewN _ _ _) (congrArg (World.drewN _) (Nat.add_assoc _ _ _))⟩))); try go_wp2_with (first | (go_at_call 122; refine calls_of_args (args' := #[.int .i64 ji5, .int .i64 ji12, .int .i64 (wrap64 ((ji14) - 1))]) zq41 ?_; (with_reducible refine (impl_in.calls ji5 ji12 (wrap64 ((ji14) - 1)) true _ A15.out).mono ?_); rintro e w' ⟨rfl, ⟨nd, rfl⟩⟩; (try first | exact ⟨rfl, _, World.drewN_drewN _ _ _⟩ | exact ⟨rfl, _, Eq.trans (World.drewN_drewN _ _ _) (congrArg (World.drewN _) (Nat.add_assoc _ _ _))⟩))))
      go_meet
      case rel => exact ⟨_, (x3_1), zq8, H', ⟨(by have := HK1.out; first | omega | exact Nat.le_refl _)⟩, ⟨zq0⟩⟩
     ·replace c16 := Bool.eq_false_iff.mpr c16
      subst c16
      rw [if_neg zF] at H
      have HC17 := zA H
      clear H
      go_upto_region 4 with (first | (go_at_call 122; refine calls_of_args (args' := #[.int .i64 ji5, .int .i64 ji12, .int .i64 (wrap64 ((ji14) - 1))]) zq41 ?_; (with_reducible refine (impl_in.calls ji5 ji12 (wrap64 ((ji14) - 1)) false _ A15.out).mono ?_); rintro e w' ⟨rfl, ⟨nd, rfl⟩⟩; (try first | exact ⟨rfl, _, World.drewN_drewN _ _ _⟩ | exact ⟨rfl, _, Eq.trans (World.drewN_drewN _ _ _) (congrArg (World.drewN _) (Nat.add_assoc _ _ _))⟩)))
      repeat (go_quiet (first | (go_at_call 122; refine calls_of_args (args' := #[.int .i64 ji5, .int .i64 ji12, .int .i64 (wrap64 ((ji14) - 1))]) zq41 ?_; (with_reducible refine (impl_in.calls ji5 ji12 (wrap64 ((ji14) - 1)) false _ A15.out).mono ?_); rintro e w' ⟨rfl, ⟨nd, rfl⟩⟩; (try first | exact ⟨rfl, _, World.drewN_drewN _ _ _⟩ | exact ⟨rfl, _, Eq.trans (World.drewN_drewN _ _ _) (congrArg (World.drewN _) (Nat.add_assoc _ _ _))⟩))); go_upto_region 4 with (first | (go_at_call 122; refine calls_of_args (args' := #[.int .i64 ji5, .int .i64 ji12, .int .i64 (wrap64 ((ji14) - 1))]) zq41 ?_; (with_reducible refine (impl_in.calls ji5 ji12 (wrap64 ((ji14) - 1)) false _ A15.out).mono ?_); rintro e w' ⟨rfl, ⟨nd, rfl⟩⟩; (try first | exact ⟨rfl, _, World.drewN_drewN _ _ _⟩ | exact ⟨rfl, _, Eq.trans (World.drewN_drewN _ _ _) (congrArg (World.drewN _) (Nat.add_assoc _ _ _))⟩))))
      (try simp only [Act.put, List.setIfInBounds_toArray, List.set_cons_zero, List.set_cons_succ])
      (try (rw [drewN_self wr]; generalize hq_ : World.drewN wr _ = wr; replace HB := zA (below_at hq_ HB.out); clear hq_))
      have H := HC17.out
      clear HC17
      have H' := zA H
      clear H
      go_wp2
      repeat (go_quiet (fail); try go_wp2)
      go_roundg k1
      case measure => have := HK1.out; omega
      case rel => exact ⟨(wrap64 (x3_1 + 1)), zq8, H', ⟨zq49⟩, ⟨zq0⟩⟩
    ·rw [if_neg c9] at H
     have c9b0 : decide (x3_1 < 4) = false := decide_eq_false c9
     clear c9
     (first | rw [c9b0] | (simp only [i64_w, i32_w]; rw [c9b0]) | skip)
     have H' := zA H
     clear H
     go_wp2
     repeat (go_quiet (fail); try go_wp2)
     go_meet
     case rel => exact ⟨_, (x3_1), zq8, H', ⟨(by have := HK1.out; first | omega | exact Nat.le_refl _)⟩, ⟨zq0⟩⟩
 case rest =>
  clear HC7
  try clear c1
  try clear p2
  try clear p6
  try clear c9
  try clear c9b0
  try clear c11
  try clear c11b0
  try clear c11b1
  try clear c13
  try clear c13b0
  try clear c15
  try clear c16
  try clear p2
  obtain ⟨kq, x3_6, rfl, HA, HJ6, HB⟩ := hcut
  cases kq with
  | zero => exact absurd HA.out (by simp [impl_PutInt.j1])
  | succ kj6 =>
   have H := HA.out
   clear HA
   simp only [impl_PutInt.j1] at H
   have HC18 := zA H
   clear H
   go_upto_region 5 with (fail)
   repeat (go_quiet (fail); go_upto_region 5 with (fail))
   have H := HC18.out
   clear HC18
   have HC19 := zA H
   clear H
   go_upto_region 6 with (fail)
   repeat (go_quiet (fail); go_upto_region 6 with (fail))
   have H := HC19.out
   clear HC19
   have H' := zA H
   clear H
   go_wp2
   repeat (go_quiet (fail); try go_wp2)
   go_loopg [4, 5] kj6 (fun kq v4 v5 w' => ∃ (x4_2 : List Int) (x5_2 : Int), v5 = .int .i64 x5_2 ∧ Aside0 (impl_PutInt.l1 kq ji5 x4_2 x5_2 = some r) ∧ Aside0 (kq ≤ kj6) ∧ Aside0 (Kd.R (Kd.int .u8) 5 w' w.heap.size (fun _ => True) v4 x4_2) ∧ Aside0 (Below w.heap.size w w'))
   case atStart => exact ⟨(([] : List Int)), (wrap64 (x3_6 - 1)), zq8, H', ⟨Nat.le_refl _⟩, ⟨zq38⟩, ⟨zq0⟩⟩
   case round =>
    clear H'
    try clear c1
    try clear p2
    try clear p6
    try clear c9
    try clear c9b0
    try clear c11
    try clear c11b0
    try clear c11b1
    try clear c13
    try clear c13b0
    try clear c15
    try clear c16
    try clear p2
    try clear p6
    obtain ⟨x4_2, x5_2, rfl, HA, HK2, HO_4, HB⟩ := hrel
    cases gk with
    | zero => exact absurd HA.out (by simp [impl_PutInt.l1])
    | succ k2 =>
     have H := HA.out
     clear HA
     simp only [impl_PutInt.l1] at H
     have HC20 := zA H
     clear H
     go_upto_region 7 with (fail)
     repeat (go_quiet (fail); go_upto_region 7 with (fail))
     have H := HC20.out
     clear HC20
     by_cases c21 : x5_2 ≥ 0
     ·rw [if_pos c21] at H
      have c21b0 : decide (0 ≤ x5_2) = true := decide_eq_true c21
      clear c21
      have HC22 := zA H
      clear H
      go_upto_region 9 with (fail)
      repeat (go_quiet (fail); go_upto_region 9 with (fail))
      have H := HC22.out
      clear HC22
      obtain ⟨ji23, hji23⟩ : ∃ j_ : Int, (wrap64 (8 * x5_2)) = j_ := ⟨_, rfl⟩
      replace H : (if 0 ≤ (ji23) then (if x4_2.length < 140737488355328 then (impl_PutInt.l1 k2 ji5 (x4_2 ++ [(shr .i64 ji5 (ji23)) % 256]) (wrap64 (x5_2 - 1))) else (none)) else (none)) = some r := by first | (rw [hji23] at H; exact H) | (simp only [hji23] at H ⊢; exact H)
      have hji23w : (IntKind.i64.wrap (8 * x5_2)) = ji23 := (i64_w _).trans hji23
      obtain ⟨c24, H⟩ := zN H
      have c24b0 := eq_true c24
      have c24b1 : decide (0 ≤ (ji23)) = true := decide_eq_true c24
      clear c24
      obtain ⟨ji25, hji25⟩ : ∃ j_ : Int, (shr .i64 ji5 (ji23)) = j_ := ⟨_, rfl⟩
      replace H : (if x4_2.length < 140737488355328 then (impl_PutInt.l1 k2 ji5 (x4_2 ++ [(ji25) % 256]) (wrap64 (x5_2 - 1))) else (none)) = some r := by first | (rw [hji25] at H; exact H) | (simp only [hji25] at H ⊢; exact H)
      have hji25_ : (ji5 / 2 ^ min (ji23).toNat 64) = ji25 := hji25
      have hji25z : (ji23) ≤ 64 → (ji5 / 2 ^ (ji23).toNat) = ji25 := shr_small hji25
      obtain ⟨c26, H⟩ := zN H
      have LMc26 := zA c26
      clear c26
      obtain ⟨y281, hy281⟩ : ∃ y_ : List Int, y_ = (x4_2 ++ [(ji25) % 256]) := ⟨_, rfl⟩
      rw [← hy281] at H
      have Ny281 := zA hy281
      clear hy281
      have HC27 := zA H
      clear H
      go_upto_region 8 with (first | ((with_reducible refine gate_builtin (b := .append) (xs := #[.tmp 33, .tmp 39]) rfl ?_); at_builtin; refine Kd.R_append (Kd.int .u8) (w0 := w) w.heap.size rfl (.tmp 33) (.tmp 39) 22 5 (.int .u8 0) 1 rfl Try.underlying22 info5 rfl zq37 zq57 u4 x4_2 ((ji25) % 256) [.int .u8 ((ji25) % 256)] (fun _ => True) (fun _ => False) rfl rfl ?aP (fun _ hk => hk.elim) ?aF ?aO ?aB ?aS ?aL ?_; (case aP => exact rfl); (case aB => exact zq0); (case aF => exact (fun _ _ => trivial)); (case aO => exact zq53); (case aS => exact (below_size zq0)); (case aL => have := LMc26.out; omega); intro v282 w28 ho hb hg hat; rw [← Ny281.out] at ho; replace HB := zA (hb); have HO283 := zA (ho); clear HO_4; clear ho hb hg hat))
      repeat (go_quiet (first | ((with_reducible refine gate_builtin (b := .append) (xs := #[.tmp 33, .tmp 39]) rfl ?_); at_builtin; refine Kd.R_append (Kd.int .u8) (w0 := w) w.heap.size rfl (.tmp 33) (.tmp 39) 22 5 (.int .u8 0) 1 rfl Try.underlying22 info5 rfl zq37 zq57 u4 x4_2 ((ji25) % 256) [.int .u8 ((ji25) % 256)] (fun _ => True) (fun _ => False) rfl rfl ?aP (fun _ hk => hk.elim) ?aF ?aO ?aB ?aS ?aL ?_; (case aP => exact rfl); (case aB => exact zq0); (case aF => exact (fun _ _ => trivial)); (case aO => exact zq53); (case aS => exact (below_size zq0)); (case aL => have := LMc26.out; omega); intro v282 w28 ho hb hg hat; rw [← Ny281.out] at ho; replace HB := zA (hb); have HO283 := zA (ho); clear HO_4; clear ho hb hg hat)); go_upto_region 8 with (first | ((with_reducible refine gate_builtin (b := .append) (xs := #[.tmp 33, .tmp 39]) rfl ?_); at_builtin; refine Kd.R_append (Kd.int .u8) (w0 := w) w.heap.size rfl (.tmp 33) (.tmp 39) 22 5 (.int .u8 0) 1 rfl Try.underlying22 info5 rfl zq37 zq57 u4 x4_2 ((ji25) % 256) [.int .u8 ((ji25) % 256)] (fun _ => True) (fun _ => False) rfl rfl ?aP (fun _ hk => hk.elim) ?aF ?aO ?aB ?aS ?aL ?_; (case aP => exact rfl); (case aB => exact zq0); (case aF => exact (fun _ _ => trivial)); (case aO => exact zq53); (case aS => exact (below_size zq0)); (case aL => have := LMc26.out; omega); intro v282 w28 ho hb hg hat; rw [← Ny281.out] at ho; replace HB := zA (hb); have HO283 := zA (ho); clear HO_4; clear ho hb hg hat)))
      (try simp only [Act.put, List.setIfInBounds_toArray, List.set_cons_zero, List.set_cons_succ])
      (try (rw [drewN_self w28]; generalize hq_ : World.drewN w28 _ = w28; replace HO283 := zA (Kd.R_at hq_ HO283.out); replace HB := zA (below_at hq_ HB.out); clear hq_))
      have H := HC27.out
      clear HC27
      have H' := zA H
      clear H
      go_wp2
      repeat (go_quiet (fail); try go_wp2)
      go_roundg k2
      case measure => have := HJ6.out; have := HK2.out; omega
      case rel => exact ⟨(y281), (wrap64 (x5_2 - 1)), zq8, H', ⟨(by have := HJ6.out; have := HK2.out; omega)⟩, ⟨(by (with_reducible repeat (first | apply Kd.R_alloc | apply Kd.R_drewN | apply Kd.R_drew)); exact HO283.out)⟩, ⟨zq0⟩⟩
     ·rw [if_neg c21] at H
      have c21b0 : decide (0 ≤ x5_2) = false := decide_eq_false c21
      clear c21
      have HC29 := zA H
      clear H
      go_upto_region 10 with (fail)
      repeat (go_quiet (fail); go_upto_region 10 with (fail))
      have H := HC29.out
      clear HC29
      obtain rfl := Option.some.inj H
      go_wp2
      repeat (go_quiet (fail); try go_wp2)
      go_ret
      exact ⟨_, (by first | rfl | (simp [errW_none, errW_some] <;> rfl) | (simp only [← hji4, ← hji5]; first | rfl | (simp [errW_none, errW_some] <;> rfl)) | (simp [*, errW_none, errW_some] <;> rfl)), zq53, zq0⟩

/-! ### impl_PutVal: function 70 -/
def impl_PutVal.f (k : Nat) (l0 : List Int) (a1_0 : Int) (a1_1 : Int) (a1_2 : ByteArray) (l1_3 : List Int) : Option (List Int) := (impl_ValOk.f k a1_0 a1_1 a1_2 l1_3).bind fun t285 => (if t285 = true then (if a1_0 = 2 then ((impl_PutInt.f k a1_1).bind fun t289 => ((impl_PutTlv.f k l0 a1_0 t289).bind fun t292 => (some t292))) else (if a1_0 = 4 then (if a1_2.size ≤ 140737488355328 then ((impl_PutTlv.f k l0 a1_0 ((bytesOf a1_2 : List Int))).bind fun t298 => (some t298)) else (none)) else (if a1_0 = 6 then ((impl_PutOid.f k l1_3).bind fun t301 => ((impl_PutTlv.f k l0 a1_0 t301).bind fun t304 => (some t304))) else ((impl_PutTlv.f k l0 a1_0 ([] : List Int)).bind fun t307 => (some t307))))) else ((impl_copyBytes.f l0).bind fun t286 => (some t286)))
theorem impl_PutVal.mono : ∀ a0 a1 a2 a3 a4 k, LeO (impl_PutVal.f k a0 a1 a2 a3 a4) (impl_PutVal.f (k + 1) a0 a1 a2 a3 a4) := by
 intro a0 a1 a2 a3 a4 k
 unfold impl_PutVal.f
 have m0_ := @impl_PutInt.mono
 have m1_ := @impl_PutOid.mono
 have m2_ := @impl_PutTlv.mono
 have m3_ := @impl_ValOk.mono
 exact zR
set_option maxHeartbeats 8000000 in
set_option maxRecDepth 100000 in
theorem impl_PutVal.calls (k : Nat) (A0 : Option Addr) (c0 : Nat) (l0 : List Int) (a1_0 : Int) (a1_1 : Int) (a1_2 : ByteArray) (A1_3 : Option Addr) (c1_3 : Nat) (l1_3 : List Int) (r : List Int) (w : World) (hr0 : Kd.C (Kd.int .u8) w A0 l0.length l0) (hc0 : l0.length ≤ c0) (hr1_3 : Kd.C (Kd.int .i64) w A1_3 l1_3.length l1_3) (hc1_3 : l1_3.length ≤ c1_3) (h : impl_PutVal.f k l0 a1_0 a1_1 a1_2 l1_3 = some r) :
  Calls Try.prog 70 #[.slice A0 l0.length c0, .agg #[.int .i64 a1_0, .int .i64 a1_1, .string a1_2, .slice A1_3 l1_3.length c1_3]] w fun e w' => ∃ v0_ : Value, e = .returned (v0_) ∧ Kd.R (Kd.int .u8) 5 w' w.heap.size (fun _ => True) v0_ r ∧ Below w.heap.size w w' := by
 have hu76 := Try.underlying76
 have HR0 := zA hr0
 have HC0 := zA hc0
 clear hr0 hc0
 have HR1_3 := zA hr1_3
 have HC1_3 := zA hc1_3
 clear hr1_3 hc1_3
 have HB := zA (Below.refl w.heap.size w)
 unfold impl_PutVal.f at h
 have H := h
 clear h
 have HC3 := zA H
 clear H
 go_enter Try.func70, Try.ntmps70
 go_upto_region 0 with (fail)
 have H := HC3.out
 clear HC3
 have HC4 := zA H
 clear H
 go_upto_region 1 with (first | ((with_reducible refine gate_dst (N := 3) rfl ?_); refine box_event ?hg (N := 3) ?hd (cs := #[.int .i64 a1_0, .int .i64 a1_1, .string a1_2, .slice A1_3 l1_3.length c1_3]) (t := 76) ?hr ?_; (case hd => rfl); (case hg => rfl); (case hr => first | (go_simp; done) | (go_simp; rfl)); intro gb284 hg w5 hbox hb; have BK284 := zA (hbox); have GW284 := zA ((zq6 : w.heap.size ≤ gb284)); have GE284 := zA ((zq6 : w.heap.size ≤ gb284)); replace HB := zA (below_step zq0 hb); clear hb hbox hg))
 (try simp only [Act.put, List.setIfInBounds_toArray, List.set_cons_zero, List.set_cons_succ])
 have H := HC4.out
 clear HC4
 obtain ⟨t285, A6, H⟩ := zB H
 try dsimp only at H
 by_cases c7 : t285 = true
 ·subst c7
  rw [if_pos rfl] at H
  have HC8 := zA H
  clear H
  have hcz9_0 : w5.cell? ⟨gb284, 0, none⟩ = some (.int .i64 a1_0) := (blk_cell BK284.out 0).trans rfl
  have hcz9_1 : w5.cell? ⟨gb284, 1, none⟩ = some (.int .i64 a1_1) := (blk_cell BK284.out 1).trans rfl
  have hcz9_2 : w5.cell? ⟨gb284, 2, none⟩ = some (.string a1_2) := (blk_cell BK284.out 2).trans rfl
  have hcz9_3 : w5.cell? ⟨gb284, 3, none⟩ = some (.slice A1_3 l1_3.length c1_3) := (blk_cell BK284.out 3).trans rfl
  have hfz9_0 := blk_frozen BK284.out 0
  have hfz9_1 := blk_frozen BK284.out 1
  have hfz9_2 := blk_frozen BK284.out 2
  have hfz9_3 := blk_frozen BK284.out 3
  go_upto_region 3 with (first | ((with_reducible refine gate_callee (f := 90) rfl ?_); refine goesL_ (some 7) rfl rfl Try.func90 (by kernel_rfl) rfl #[.agg #[.int .i64 a1_0, .int .i64 a1_1, .string a1_2, .slice A1_3 l1_3.length c1_3]] rfl zq1 ?_; (with_reducible refine (impl_ValOk.calls k a1_0 a1_1 a1_2 _ _ l1_3 true _ ?side1 ?side2 A6.out).mono ?_); (case side1 => repeat (first | exact (Kd.C_below HR1_3.out HB.out) | (with_reducible refine Kd.C_alloc ?_ _) | (with_reducible refine Kd.C_drewN ?_ _) | (with_reducible refine Kd.C_drew ?_))); (case side2 => exact HC1_3.out); rintro e w10 ⟨rfl, hb⟩; refine ⟨_, rfl, ?_⟩; replace BK284 := zA (blk_below (g := gb284) (o := .cells #[.int .i64 a1_0, .int .i64 a1_1, .string a1_2, .slice A1_3 l1_3.length c1_3] 76 (0, 0)) zq23 hb); replace HB := zA (below_step zq7 hb); clear hb))
  (try simp only [Act.put, List.setIfInBounds_toArray, List.set_cons_zero, List.set_cons_succ])
  have H := HC8.out
  clear HC8
  have HC11 := zA H
  clear H
  go_upto_region 4 with (fail)
  have H := HC11.out
  clear HC11
  have HC12 := zA H
  clear H
  have hcz13_0 : w10.cell? ⟨gb284, 0, none⟩ = some (.int .i64 a1_0) := (blk_cell BK284.out 0).trans rfl
  have hcz13_1 : w10.cell? ⟨gb284, 1, none⟩ = some (.int .i64 a1_1) := (blk_cell BK284.out 1).trans rfl
  have hcz13_2 : w10.cell? ⟨gb284, 2, none⟩ = some (.string a1_2) := (blk_cell BK284.out 2).trans rfl
  have hcz13_3 : w10.cell? ⟨gb284, 3, none⟩ = some (.slice A1_3 l1_3.length c1_3) := (blk_cell BK284.out 3).trans rfl
  have hfz13_0 := blk_frozen BK284.out 0
  have hfz13_1 := blk_frozen BK284.out 1
  have hfz13_2 := blk_frozen BK284.out 2
  have hfz13_3 := blk_frozen BK284.out 3
  go_upto_region 5 with (fail)
  have H := HC12.out
  clear HC12
  by_cases c14 : a1_0 = 2
  ·rw [if_pos c14] at H
   have c14b0 : (a1_0 == 2) = true := beq_iff_eq.mpr c14
   have c14b1 : (a1_0 != 2) = false := bne_eq_false_iff_eq.mpr c14
   clear c14
   have HC15 := zA H
   clear H
   go_upto_region 6 with (fail)
   have H := HC15.out
   clear HC15
   obtain ⟨t289, A16, H⟩ := zB H
   try dsimp only at H
   have HC17 := zA H
   clear H
   have hcz18_0 : w10.cell? ⟨gb284, 0, none⟩ = some (.int .i64 a1_0) := (blk_cell BK284.out 0).trans rfl
   have hcz18_1 : w10.cell? ⟨gb284, 1, none⟩ = some (.int .i64 a1_1) := (blk_cell BK284.out 1).trans rfl
   have hcz18_2 : w10.cell? ⟨gb284, 2, none⟩ = some (.string a1_2) := (blk_cell BK284.out 2).trans rfl
   have hcz18_3 : w10.cell? ⟨gb284, 3, none⟩ = some (.slice A1_3 l1_3.length c1_3) := (blk_cell BK284.out 3).trans rfl
   have hfz18_0 := blk_frozen BK284.out 0
   have hfz18_1 := blk_frozen BK284.out 1
   have hfz18_2 := blk_frozen BK284.out 2
   have hfz18_3 := blk_frozen BK284.out 3
   go_upto_region 11 with (first | ((with_reducible refine gate_callee (f := 156) rfl ?_); refine goesL_ (some 17) rfl rfl Try.func156 (by kernel_rfl) rfl #[.int .i64 a1_1] rfl zq1 ?_; (with_reducible refine (impl_PutInt.calls k a1_1 t289 _ A16.out).mono ?_); rintro e w19 ⟨v290, rfl, ho0, hb⟩; refine ⟨_, rfl, ?_⟩; have HO291 := zA (Kd.R_lower ho0 (below_size zq7)); replace BK284 := zA (blk_below (g := gb284) (o := .cells #[.int .i64 a1_0, .int .i64 a1_1, .string a1_2, .slice A1_3 l1_3.length c1_3] 76 (0, 0)) zq23 hb); replace HB := zA (below_step zq7 hb); clear hb ho0))
   (try simp only [Act.put, List.setIfInBounds_toArray, List.set_cons_zero, List.set_cons_succ])
   have H := HC17.out
   clear HC17
   obtain ⟨t292, A20, H⟩ := zB H
   try dsimp only at H
   obtain rfl := Option.some.inj H
   have hcz21_0 : w19.cell? ⟨gb284, 0, none⟩ = some (.int .i64 a1_0) := (blk_cell BK284.out 0).trans rfl
   have hcz21_1 : w19.cell? ⟨gb284, 1, none⟩ = some (.int .i64 a1_1) := (blk_cell BK284.out 1).trans rfl
   have hcz21_2 : w19.cell? ⟨gb284, 2, none⟩ = some (.string a1_2) := (blk_cell BK284.out 2).trans rfl
   have hcz21_3 : w19.cell? ⟨gb284, 3, none⟩ = some (.slice A1_3 l1_3.length c1_3) := (blk_cell BK284.out 3).trans rfl
   have hfz21_0 := blk_frozen BK284.out 0
   have hfz21_1 := blk_frozen BK284.out 1
   have hfz21_2 := blk_frozen BK284.out 2
   have hfz21_3 := blk_frozen BK284.out 3
   obtain ⟨Ao22, co22, eo22⟩ := Kd.R_slice HO291.out
   subst eo22
   go_wp2_with (first | ((with_reducible refine gate_callee (f := 107) rfl ?_); refine goesL_ (some 32) rfl rfl Try.func107 (by kernel_rfl) rfl #[.slice A0 l0.length c0, .int .i64 a1_0, .slice Ao22 t289.length co22] rfl zq1 ?_; (with_reducible refine (impl_PutTlv.calls k _ _ l0 a1_0 _ _ t289 t292 _ ?side1 ?side2 ?side3 ?side4 A20.out).mono ?_); (case side1 => repeat (first | exact (Kd.C_below HR0.out HB.out) | (with_reducible refine Kd.C_alloc ?_ _) | (with_reducible refine Kd.C_drewN ?_ _) | (with_reducible refine Kd.C_drew ?_))); (case side2 => exact HC0.out); (case side3 => repeat (first | exact (Kd.R_reads' HO291.out).2.2 | (with_reducible refine Kd.C_alloc ?_ _) | (with_reducible refine Kd.C_drewN ?_ _) | (with_reducible refine Kd.C_drew ?_))); (case side4 => exact (Kd.R_reads' HO291.out).2.1); rintro e w23 ⟨v293, rfl, ho0, hb⟩; refine ⟨_, rfl, ?_⟩; have HO294 := zA (Kd.R_lower (Kd.R_new' ho0 (Kd.R_lt zq83)) (below_size zq7)); replace HO291 := zA (Kd.R_elder' zq83 (Kd.R_base ho0) hb); replace BK284 := zA (blk_below (g := gb284) (o := .cells #[.int .i64 a1_0, .int .i64 a1_1, .string a1_2, .slice A1_3 l1_3.length c1_3] 76 (0, 0)) zq23 hb); replace HB := zA (below_step zq7 hb); clear hb ho0))
   go_ret
   exact ⟨_, zq2, (by (with_reducible repeat (first | apply Kd.R_alloc | apply Kd.R_drewN | apply Kd.R_drew)); exact Kd.R_mono HO294.out (fun _ hk => trivial)), zq7⟩
  ·rw [if_neg c14] at H
   have c14b0 : (a1_0 == 2) = false := beq_eq_false_iff_ne.mpr c14
   have c14b1 : (a1_0 != 2) = true := bne_iff_ne.mpr c14
   have HC24 := zA H
   clear H
   go_upto_region 7 with (fail)
   have H := HC24.out
   clear HC24
   by_cases c25 : a1_0 = 4
   ·rw [if_pos c25] at H
    have c25b0 : (a1_0 == 4) = true := beq_iff_eq.mpr c25
    have c25b1 : (a1_0 != 4) = false := bne_eq_false_iff_eq.mpr c25
    clear c25
    have HC26 := zA H
    clear H
    go_upto_region 8 with (fail)
    have H := HC26.out
    clear HC26
    obtain ⟨c27, H⟩ := zN H
    have c27b0 := eq_true c27
    have c27b1 : decide (a1_2.size ≤ 140737488355328) = true := decide_eq_true c27
    clear c27
    obtain ⟨y295, hy295⟩ : ∃ y_ : List Int, y_ = ((bytesOf a1_2 : List Int)) := ⟨_, rfl⟩
    rw [← hy295] at H
    have Ny295 := zA hy295
    clear hy295
    have HC28 := zA H
    clear H
    have hcz29_0 : w10.cell? ⟨gb284, 0, none⟩ = some (.int .i64 a1_0) := (blk_cell BK284.out 0).trans rfl
    have hcz29_1 : w10.cell? ⟨gb284, 1, none⟩ = some (.int .i64 a1_1) := (blk_cell BK284.out 1).trans rfl
    have hcz29_2 : w10.cell? ⟨gb284, 2, none⟩ = some (.string a1_2) := (blk_cell BK284.out 2).trans rfl
    have hcz29_3 : w10.cell? ⟨gb284, 3, none⟩ = some (.slice A1_3 l1_3.length c1_3) := (blk_cell BK284.out 3).trans rfl
    have hfz29_0 := blk_frozen BK284.out 0
    have hfz29_1 := blk_frozen BK284.out 1
    have hfz29_2 := blk_frozen BK284.out 2
    have hfz29_3 := blk_frozen BK284.out 3
    go_upto_region 11 with (first | ((with_reducible refine gate_dst (N := 22) rfl ?_); refine V_conv _ ?hg (N := 22) ?hd ?hx 9 22 5 ?ho Try.underlying9 Try.underlying22 Try.underlying5 a1_2 ?hr (ok := fun k_ => w10.heap.size ≤ k_) (Nat.le_refl _) ?hm (Below.refl _ _) (Nat.le_refl _) ?_; (case hd => rfl); (case hg => rfl); (case ho => rfl); (case hr => first | rfl | (go_simp; done) | (go_simp; rfl)); (case hm => exact of_decide_eq_true zq9); intro v296 w30 ho31 hb hg_ hnew_; clear hg_ hnew_; (first | rw [← Ny295.out] at ho31 | (simp only [Int.reduceToNat] at ho31; rw [← Ny295.out] at ho31)); have HO297 := zA (Kd.V_lower (Kd.V_mono (ok' := fun k_ => k_ ≠ gb284) ho31 (fun k_ hk_ => (Kd.freshB (g := gb284) (o := .cells #[.int .i64 a1_0, .int .i64 a1_1, .string a1_2, .slice A1_3 l1_3.length c1_3] 76 (0, 0)) zq23 k_ hk_))) (below_size zq7)); replace BK284 := zA (blk_below (g := gb284) (o := .cells #[.int .i64 a1_0, .int .i64 a1_1, .string a1_2, .slice A1_3 l1_3.length c1_3] 76 (0, 0)) zq23 hb); replace HB := zA (below_step zq7 hb); clear hb ho31))
    (try simp only [Act.put, List.setIfInBounds_toArray, List.set_cons_zero, List.set_cons_succ])
    (try (rw [drewN_self w30]; generalize hq_ : World.drewN w30 _ = w30; replace HO297 := zA (Kd.V_at hq_ HO297.out); replace BK284 := zA (blk_at hq_ BK284.out); replace HB := zA (below_at hq_ HB.out); clear hq_))
    have H := HC28.out
    clear HC28
    obtain ⟨t298, A32, H⟩ := zB H
    try dsimp only at H
    obtain rfl := Option.some.inj H
    have hcz33_0 : w30.cell? ⟨gb284, 0, none⟩ = some (.int .i64 a1_0) := (blk_cell BK284.out 0).trans rfl
    have hcz33_1 : w30.cell? ⟨gb284, 1, none⟩ = some (.int .i64 a1_1) := (blk_cell BK284.out 1).trans rfl
    have hcz33_2 : w30.cell? ⟨gb284, 2, none⟩ = some (.string a1_2) := (blk_cell BK284.out 2).trans rfl
    have hcz33_3 : w30.cell? ⟨gb284, 3, none⟩ = some (.slice A1_3 l1_3.length c1_3) := (blk_cell BK284.out 3).trans rfl
    have hfz33_0 := blk_frozen BK284.out 0
    have hfz33_1 := blk_frozen BK284.out 1
    have hfz33_2 := blk_frozen BK284.out 2
    have hfz33_3 := blk_frozen BK284.out 3
    obtain ⟨Ao34, co34, eo34⟩ := Kd.V_slice HO297.out
    subst eo34
    go_wp2_with (first | ((with_reducible refine gate_callee (f := 107) rfl ?_); refine goesL_ (some 32) rfl rfl Try.func107 (by kernel_rfl) rfl #[.slice A0 l0.length c0, .int .i64 a1_0, .slice Ao34 y295.length co34] rfl zq1 ?_; (with_reducible refine (impl_PutTlv.calls k _ _ l0 a1_0 _ _ y295 t298 _ ?side1 ?side2 ?side3 ?side4 A32.out).mono ?_); (case side1 => repeat (first | exact (Kd.C_below HR0.out HB.out) | (with_reducible refine Kd.C_alloc ?_ _) | (with_reducible refine Kd.C_drewN ?_ _) | (with_reducible refine Kd.C_drew ?_))); (case side2 => exact HC0.out); (case side3 => repeat (first | exact (Kd.V_reads' HO297.out).2.2 | (with_reducible refine Kd.C_alloc ?_ _) | (with_reducible refine Kd.C_drewN ?_ _) | (with_reducible refine Kd.C_drew ?_))); (case side4 => exact (Kd.V_reads' HO297.out).2.1); rintro e w35 ⟨v299, rfl, ho0, hb⟩; refine ⟨_, rfl, ?_⟩; replace HO297 := zA (Kd.V_elder' (by (with_reducible repeat (first | apply Kd.V_alloc | apply Kd.V_drewN | apply Kd.V_drew)); exact HO297.out) (Kd.R_base ho0) hb); have HO300 := zA (Kd.R_lower ho0 (below_size zq7)); replace BK284 := zA (blk_below (g := gb284) (o := .cells #[.int .i64 a1_0, .int .i64 a1_1, .string a1_2, .slice A1_3 l1_3.length c1_3] 76 (0, 0)) zq23 hb); replace HB := zA (below_step zq7 hb); clear hb ho0))
    go_ret
    exact ⟨_, zq2, (by (with_reducible repeat (first | apply Kd.R_alloc | apply Kd.R_drewN | apply Kd.R_drew)); exact HO300.out), zq7⟩
   ·rw [if_neg c25] at H
    have c25b0 : (a1_0 == 4) = false := beq_eq_false_iff_ne.mpr c25
    have c25b1 : (a1_0 != 4) = true := bne_iff_ne.mpr c25
    have HC36 := zA H
    clear H
    go_upto_region 9 with (fail)
    have H := HC36.out
    clear HC36
    by_cases c37 : a1_0 = 6
    ·rw [if_pos c37] at H
     have c37b0 : (a1_0 == 6) = true := beq_iff_eq.mpr c37
     have c37b1 : (a1_0 != 6) = false := bne_eq_false_iff_eq.mpr c37
     clear c37
     have HC38 := zA H
     clear H
     go_upto_region 10 with (fail)
     have H := HC38.out
     clear HC38
     obtain ⟨t301, A39, H⟩ := zB H
     try dsimp only at H
     have HC40 := zA H
     clear H
     have hcz41_0 : w10.cell? ⟨gb284, 0, none⟩ = some (.int .i64 a1_0) := (blk_cell BK284.out 0).trans rfl
     have hcz41_1 : w10.cell? ⟨gb284, 1, none⟩ = some (.int .i64 a1_1) := (blk_cell BK284.out 1).trans rfl
     have hcz41_2 : w10.cell? ⟨gb284, 2, none⟩ = some (.string a1_2) := (blk_cell BK284.out 2).trans rfl
     have hcz41_3 : w10.cell? ⟨gb284, 3, none⟩ = some (.slice A1_3 l1_3.length c1_3) := (blk_cell BK284.out 3).trans rfl
     have hfz41_0 := blk_frozen BK284.out 0
     have hfz41_1 := blk_frozen BK284.out 1
     have hfz41_2 := blk_frozen BK284.out 2
     have hfz41_3 := blk_frozen BK284.out 3
     go_upto_region 11 with (first | ((with_reducible refine gate_callee (f := 108) rfl ?_); refine goesL_ (some 27) rfl rfl Try.func108 (by kernel_rfl) rfl #[.slice A1_3 l1_3.length c1_3] rfl zq1 ?_; (with_reducible refine (impl_PutOid.calls k _ _ l1_3 t301 _ ?side1 ?side2 A39.out).mono ?_); (case side1 => repeat (first | exact (Kd.C_below HR1_3.out HB.out) | (with_reducible refine Kd.C_alloc ?_ _) | (with_reducible refine Kd.C_drewN ?_ _) | (with_reducible refine Kd.C_drew ?_))); (case side2 => exact HC1_3.out); rintro e w42 ⟨v302, rfl, ho0, hb⟩; refine ⟨_, rfl, ?_⟩; have HO303 := zA (Kd.R_lower ho0 (below_size zq7)); replace BK284 := zA (blk_below (g := gb284) (o := .cells #[.int .i64 a1_0, .int .i64 a1_1, .string a1_2, .slice A1_3 l1_3.length c1_3] 76 (0, 0)) zq23 hb); replace HB := zA (below_step zq7 hb); clear hb ho0))
     (try simp only [Act.put, List.setIfInBounds_toArray, List.set_cons_zero, List.set_cons_succ])
     have H := HC40.out
     clear HC40
     obtain ⟨t304, A43, H⟩ := zB H
     try dsimp only at H
     obtain rfl := Option.some.inj H
     have hcz44_0 : w42.cell? ⟨gb284, 0, none⟩ = some (.int .i64 a1_0) := (blk_cell BK284.out 0).trans rfl
     have hcz44_1 : w42.cell? ⟨gb284, 1, none⟩ = some (.int .i64 a1_1) := (blk_cell BK284.out 1).trans rfl
     have hcz44_2 : w42.cell? ⟨gb284, 2, none⟩ = some (.string a1_2) := (blk_cell BK284.out 2).trans rfl
     have hcz44_3 : w42.cell? ⟨gb284, 3, none⟩ = some (.slice A1_3 l1_3.length c1_3) := (blk_cell BK284.out 3).trans rfl
     have hfz44_0 := blk_frozen BK284.out 0
     have hfz44_1 := blk_frozen BK284.out 1
     have hfz44_2 := blk_frozen BK284.out 2
     have hfz44_3 := blk_frozen BK284.out 3
     obtain ⟨Ao45, co45, eo45⟩ := Kd.R_slice HO303.out
     subst eo45
     go_wp2_with (first | ((with_reducible refine gate_callee (f := 107) rfl ?_); refine goesL_ (some 32) rfl rfl Try.func107 (by kernel_rfl) rfl #[.slice A0 l0.length c0, .int .i64 a1_0, .slice Ao45 t301.length co45] rfl zq1 ?_; (with_reducible refine (impl_PutTlv.calls k _ _ l0 a1_0 _ _ t301 t304 _ ?side1 ?side2 ?side3 ?side4 A43.out).mono ?_); (case side1 => repeat (first | exact (Kd.C_below HR0.out HB.out) | (with_reducible refine Kd.C_alloc ?_ _) | (with_reducible refine Kd.C_drewN ?_ _) | (with_reducible refine Kd.C_drew ?_))); (case side2 => exact HC0.out); (case side3 => repeat (first | exact (Kd.R_reads' HO303.out).2.2 | (with_reducible refine Kd.C_alloc ?_ _) | (with_reducible refine Kd.C_drewN ?_ _) | (with_reducible refine Kd.C_drew ?_))); (case side4 => exact (Kd.R_reads' HO303.out).2.1); rintro e w46 ⟨v305, rfl, ho0, hb⟩; refine ⟨_, rfl, ?_⟩; have HO306 := zA (Kd.R_lower (Kd.R_new' ho0 (Kd.R_lt zq84)) (below_size zq7)); replace HO303 := zA (Kd.R_elder' zq84 (Kd.R_base ho0) hb); replace BK284 := zA (blk_below (g := gb284) (o := .cells #[.int .i64 a1_0, .int .i64 a1_1, .string a1_2, .slice A1_3 l1_3.length c1_3] 76 (0, 0)) zq23 hb); replace HB := zA (below_step zq7 hb); clear hb ho0))
     go_ret
     exact ⟨_, zq2, (by (with_reducible repeat (first | apply Kd.R_alloc | apply Kd.R_drewN | apply Kd.R_drew)); exact Kd.R_mono HO306.out (fun _ hk => trivial)), zq7⟩
    ·rw [if_neg c37] at H
     have c37b0 : (a1_0 == 6) = false := beq_eq_false_iff_ne.mpr c37
     have c37b1 : (a1_0 != 6) = true := bne_iff_ne.mpr c37
     have HC47 := zA H
     clear H
     go_upto_region 11 with (fail)
     have H := HC47.out
     clear HC47
     obtain ⟨t307, A48, H⟩ := zB H
     try dsimp only at H
     obtain rfl := Option.some.inj H
     have hcz49_0 : w10.cell? ⟨gb284, 0, none⟩ = some (.int .i64 a1_0) := (blk_cell BK284.out 0).trans rfl
     have hcz49_1 : w10.cell? ⟨gb284, 1, none⟩ = some (.int .i64 a1_1) := (blk_cell BK284.out 1).trans rfl
     have hcz49_2 : w10.cell? ⟨gb284, 2, none⟩ = some (.string a1_2) := (blk_cell BK284.out 2).trans rfl
     have hcz49_3 : w10.cell? ⟨gb284, 3, none⟩ = some (.slice A1_3 l1_3.length c1_3) := (blk_cell BK284.out 3).trans rfl
     have hfz49_0 := blk_frozen BK284.out 0
     have hfz49_1 := blk_frozen BK284.out 1
     have hfz49_2 := blk_frozen BK284.out 2
     have hfz49_3 := blk_frozen BK284.out 3
     go_wp2_with (first | ((with_reducible refine gate_callee (f := 107) rfl ?_); refine goesL_ (some 32) rfl rfl Try.func107 (by kernel_rfl) rfl #[.slice A0 l0.length c0, .int .i64 a1_0, .slice none 0 0] rfl zq1 ?_; (refine (impl_PutTlv.calls k _ _ l0 a1_0 _ _ ([] : List Int) t307 _ ?side1 ?side2 ?side3 ?side4 A48.out).mono ?_); (case side1 => repeat (first | exact (Kd.C_below HR0.out HB.out) | (with_reducible refine Kd.C_alloc ?_ _) | (with_reducible refine Kd.C_drewN ?_ _) | (with_reducible refine Kd.C_drew ?_))); (case side2 => exact HC0.out); (case side3 => exact Kd.C_nil _ _); (case side4 => exact Nat.le_refl _); rintro e w50 ⟨v308, rfl, ho0, hb⟩; refine ⟨_, rfl, ?_⟩; have HO309 := zA (Kd.R_lower ho0 (below_size zq7)); replace BK284 := zA (blk_below (g := gb284) (o := .cells #[.int .i64 a1_0, .int .i64 a1_1, .string a1_2, .slice A1_3 l1_3.length c1_3] 76 (0, 0)) zq23 hb); replace HB := zA (below_step zq7 hb); clear hb ho0))
     go_ret
     exact ⟨_, zq2, (by (with_reducible repeat (first | apply Kd.R_alloc | apply Kd.R_drewN | apply Kd.R_drew)); exact HO309.out), zq7⟩
 ·replace c7 := Bool.eq_false_iff.mpr c7
  subst c7
  rw [if_neg zF] at H
  have HC51 := zA H
  clear H
  have hcz52_0 : w5.cell? ⟨gb284, 0, none⟩ = some (.int .i64 a1_0) := (blk_cell BK284.out 0).trans rfl
  have hcz52_1 : w5.cell? ⟨gb284, 1, none⟩ = some (.int .i64 a1_1) := (blk_cell BK284.out 1).trans rfl
  have hcz52_2 : w5.cell? ⟨gb284, 2, none⟩ = some (.string a1_2) := (blk_cell BK284.out 2).trans rfl
  have hcz52_3 : w5.cell? ⟨gb284, 3, none⟩ = some (.slice A1_3 l1_3.length c1_3) := (blk_cell BK284.out 3).trans rfl
  have hfz52_0 := blk_frozen BK284.out 0
  have hfz52_1 := blk_frozen BK284.out 1
  have hfz52_2 := blk_frozen BK284.out 2
  have hfz52_3 := blk_frozen BK284.out 3
  go_upto_region 2 with (first | ((with_reducible refine gate_callee (f := 90) rfl ?_); refine goesL_ (some 7) rfl rfl Try.func90 (by kernel_rfl) rfl #[.agg #[.int .i64 a1_0, .int .i64 a1_1, .string a1_2, .slice A1_3 l1_3.length c1_3]] rfl zq1 ?_; (with_reducible refine (impl_ValOk.calls k a1_0 a1_1 a1_2 _ _ l1_3 false _ ?side1 ?side2 A6.out).mono ?_); (case side1 => repeat (first | exact (Kd.C_below HR1_3.out HB.out) | (with_reducible refine Kd.C_alloc ?_ _) | (with_reducible refine Kd.C_drewN ?_ _) | (with_reducible refine Kd.C_drew ?_))); (case side2 => exact HC1_3.out); rintro e w53 ⟨rfl, hb⟩; refine ⟨_, rfl, ?_⟩; replace BK284 := zA (blk_below (g := gb284) (o := .cells #[.int .i64 a1_0, .int .i64 a1_1, .string a1_2, .slice A1_3 l1_3.length c1_3] 76 (0, 0)) zq23 hb); replace HB := zA (below_step zq7 hb); clear hb))
  (try simp only [Act.put, List.setIfInBounds_toArray, List.set_cons_zero, List.set_cons_succ])
  have H := HC51.out
  clear HC51
  obtain ⟨t286, A54, H⟩ := zB H
  try dsimp only at H
  obtain rfl := Option.some.inj H
  go_wp2_with (first | ((with_reducible refine gate_callee (f := 155) rfl ?_); refine goesL_ (some 10) rfl rfl Try.func155 (by kernel_rfl) rfl #[.slice A0 l0.length c0] rfl zq1 ?_; (with_reducible refine (impl_copyBytes.calls _ _ l0 t286 _ ?side1 ?side2 A54.out).mono ?_); (case side1 => repeat (first | exact (Kd.C_below HR0.out HB.out) | (with_reducible refine Kd.C_alloc ?_ _) | (with_reducible refine Kd.C_drewN ?_ _) | (with_reducible refine Kd.C_drew ?_))); (case side2 => exact HC0.out); rintro e w55 ⟨v287, rfl, ho0, hb⟩; refine ⟨_, rfl, ?_⟩; have HO288 := zA (Kd.R_lower ho0 (below_size zq7)); replace BK284 := zA (blk_below (g := gb284) (o := .cells #[.int .i64 a1_0, .int .i64 a1_1, .string a1_2, .slice A1_3 l1_3.length c1_3] 76 (0, 0)) zq23 hb); replace HB := zA (below_step zq7 hb); clear hb ho0))
  go_ret
  exact ⟨_, zq2, (by (with_reducible repeat (first | apply Kd.R_alloc | apply Kd.R_drewN | apply Kd.R_drew)); exact HO288.out), zq7⟩

/-! ### laws_eqIntS: function 157 -/
def laws_eqIntS.l0 : Nat → List Int → List Int → Int → Option (Bool)
 | 0, _, _, _ => none
 | k + 1, x0, x1, x5 => if x5 < (x0.length : Int) then (if 0 ≤ x5 then (if x5 < (x1.length : Int) then (if (rd x0 x5) = (rd x1 x5) then (laws_eqIntS.l0 k x0 x1 (wrap64 (x5 + 1))) else (some false)) else (none)) else (none)) else (some true)
def laws_eqIntS.f (k : Nat) (l0 : List Int) (l1 : List Int) : Option (Bool) := if (l0.length : Int) = (l1.length : Int) then (laws_eqIntS.l0 k l0 l1 0) else (some false)
theorem laws_eqIntS.mono_l : ∀ k, (∀ y0 y1 y2, LeO (laws_eqIntS.l0 k y0 y1 y2) (laws_eqIntS.l0 (k + 1) y0 y1 y2))
 | 0 => fun _ _ _ r h => by simp [laws_eqIntS.l0] at h
 | k + 1 => by
  have ih0 := laws_eqIntS.mono_l k
  ·intro y0 y1 y2
   unfold laws_eqIntS.l0
   exact zR
theorem laws_eqIntS.mono : ∀ a0 a1 k, LeO (laws_eqIntS.f k a0 a1) (laws_eqIntS.f (k + 1) a0 a1) := by
 intro a0 a1 k
 have ih0 := laws_eqIntS.mono_l k
 unfold laws_eqIntS.f
 exact zR
set_option maxHeartbeats 8000000 in
set_option maxRecDepth 100000 in
theorem laws_eqIntS.calls (k : Nat) (A0 : Option Addr) (c0 : Nat) (l0 : List Int) (A1 : Option Addr) (c1 : Nat) (l1 : List Int) (r : Bool) (w : World) (hr0 : Kd.C (Kd.int .i64) w A0 l0.length l0) (hc0 : l0.length ≤ c0) (hr1 : Kd.C (Kd.int .i64) w A1 l1.length l1) (hc1 : l1.length ≤ c1) (h : laws_eqIntS.f k l0 l1 = some r) :
  Calls Try.prog 157 #[.slice A0 l0.length c0, .slice A1 l1.length c1] w fun e w' => e = .returned (.bool r) ∧ Drawn0 w w' := by
 have HR0 := zA hr0
 have HC0 := zA hc0
 clear hr0 hc0
 have HR1 := zA hr1
 have HC1 := zA hc1
 clear hr1 hc1
 unfold laws_eqIntS.f at h
 have H := h
 clear h
 have HC3 := zA H
 clear H
 go_enter Try.func157, Try.ntmps157
 go_upto_region 0 with (fail)
 repeat (go_quiet (fail); go_upto_region 0 with (fail))
 have H := HC3.out
 clear HC3
 have HC4 := zA H
 clear H
 go_upto_region 1 with (fail)
 repeat (go_quiet (fail); go_upto_region 1 with (fail))
 have H := HC4.out
 clear HC4
 by_cases c5 : (l0.length : Int) = (l1.length : Int)
 ·rw [if_pos c5] at H
  have c5b0 : ((l0.length : Int) == (l1.length : Int)) = true := beq_iff_eq.mpr c5
  have c5b1 : ((l0.length : Int) != (l1.length : Int)) = false := bne_eq_false_iff_eq.mpr c5
  have c5b2 : (l0.length == l1.length) = true := by first | simpa using c5 | (simp at c5 ⊢; omega)
  clear c5
  have HC6 := zA H
  clear H
  go_upto_region 3 with (fail)
  repeat (go_quiet (fail); go_upto_region 3 with (fail))
  have H := HC6.out
  clear HC6
  have H' := zA H
  clear H
  go_wp2
  repeat (go_quiet (fail); try go_wp2)
  go_loopg [5] k (fun kq v5 w' => ∃ (x5_1 : Int), v5 = .int .i64 x5_1 ∧ Aside0 (laws_eqIntS.l0 kq l0 l1 x5_1 = some r) ∧ Aside0 (kq ≤ k) ∧ Drawn0 w w')
  case atStart => exact ⟨(0), zq8, H', ⟨Nat.le_refl _⟩, zq14⟩
  case round =>
   clear H'
   try clear c1
   try clear p2
   try clear c5
   try clear c5b0
   try clear c5b1
   try clear c5b2
   obtain ⟨x5_1, rfl, HA, HK1, ⟨m1, rfl⟩⟩ := hrel
   cases gk with
   | zero => exact absurd HA.out (by simp [laws_eqIntS.l0])
   | succ k1 =>
    have H := HA.out
    clear HA
    simp only [laws_eqIntS.l0] at H
    have HC7 := zA H
    clear H
    go_upto_region 4 with (fail)
    repeat (go_quiet (fail); go_upto_region 4 with (fail))
    have H := HC7.out
    clear HC7
    by_cases c8 : x5_1 < (l0.length : Int)
    ·rw [if_pos c8] at H
     have c8b0 : decide (x5_1 < (l0.length : Int)) = true := decide_eq_true c8
     clear c8
     have HC9 := zA H
     clear H
     go_upto_region 6 with (fail)
     repeat (go_quiet (fail); go_upto_region 6 with (fail))
     have H := HC9.out
     clear HC9
     obtain ⟨c10, H⟩ := zN H
     have c10b0 : decide (0 ≤ x5_1) = true := decide_eq_true c10
     clear c10
     obtain ⟨c11, H⟩ := zN H
     have c11b0 : decide (x5_1 < (l1.length : Int)) = true := decide_eq_true c11
     clear c11
     by_cases c12 : (rd l0 x5_1) = (rd l1 x5_1)
     ·rw [if_pos c12] at H
      have c12b0 : ((rd l0 x5_1) == (rd l1 x5_1)) = true := beq_iff_eq.mpr c12
      have c12b1 : ((rd l0 x5_1) != (rd l1 x5_1)) = false := bne_eq_false_iff_eq.mpr c12
      clear c12
      have HC13 := zA H
      clear H
      have p310 : 0 ≤ (x5_1 : Int) := of_decide_eq_true zq9
      have q310 : x5_1 < (l0.length : Int) := of_decide_eq_true zq9
      obtain ⟨ad310, e310, hx310_0⟩ := Kd.at_int HR0.out x5_1 p310 q310
      cases e310
      replace p310 := eq_true p310
      replace q310 := eq_true q310
      have p311 : 0 ≤ (x5_1 : Int) := of_decide_eq_true zq9
      have q311 : x5_1 < (l1.length : Int) := of_decide_eq_true zq9
      obtain ⟨ad311, e311, hx311_0⟩ := Kd.at_int HR1.out x5_1 p311 q311
      cases e311
      replace p311 := eq_true p311
      replace q311 := eq_true q311
      go_upto_region 5 with (fail)
      repeat (go_quiet (fail); go_upto_region 5 with (fail))
      have H := HC13.out
      clear HC13
      have H' := zA H
      clear H
      go_wp2
      repeat (go_quiet (fail); try go_wp2)
      go_roundg k1
      case measure => have := HK1.out; omega
      case rel => exact ⟨(wrap64 (x5_1 + 1)), zq8, H', ⟨zq49⟩, zq14⟩
     ·rw [if_neg c12] at H
      have c12b0 : ((rd l0 x5_1) == (rd l1 x5_1)) = false := beq_eq_false_iff_ne.mpr c12
      have c12b1 : ((rd l0 x5_1) != (rd l1 x5_1)) = true := bne_iff_ne.mpr c12
      have HC14 := zA H
      clear H
      have p310 : 0 ≤ (x5_1 : Int) := of_decide_eq_true zq9
      have q310 : x5_1 < (l0.length : Int) := of_decide_eq_true zq9
      obtain ⟨ad310, e310, hx310_0⟩ := Kd.at_int HR0.out x5_1 p310 q310
      cases e310
      replace p310 := eq_true p310
      replace q310 := eq_true q310
      have p311 : 0 ≤ (x5_1 : Int) := of_decide_eq_true zq9
      have q311 : x5_1 < (l1.length : Int) := of_decide_eq_true zq9
      obtain ⟨ad311, e311, hx311_0⟩ := Kd.at_int HR1.out x5_1 p311 q311
      cases e311
      replace p311 := eq_true p311
      replace q311 := eq_true q311
      go_upto_region 7 with (fail)
      repeat (go_quiet (fail); go_upto_region 7 with (fail))
      have H := HC14.out
      clear HC14
      obtain rfl := Option.some.inj H
      go_wp2
      repeat (go_quiet (fail); try go_wp2)
      go_ret
      exact ⟨zq8, zq14⟩
    ·rw [if_neg c8] at H
     have c8b0 : decide (x5_1 < (l0.length : Int)) = false := decide_eq_false c8
     clear c8
     have HC15 := zA H
     clear H
     go_upto_region 8 with (fail)
     repeat (go_quiet (fail); go_upto_region 8 with (fail))
     have H := HC15.out
     clear HC15
     obtain rfl := Option.some.inj H
     go_wp2
     repeat (go_quiet (fail); try go_wp2)
     go_ret
     exact ⟨zq8, zq14⟩
 ·rw [if_neg c5] at H
  have c5b0 : ((l0.length : Int) == (l1.length : Int)) = false := beq_eq_false_iff_ne.mpr c5
  have c5b1 : ((l0.length : Int) != (l1.length : Int)) = true := bne_iff_ne.mpr c5
  have c5b2 : (l0.length == l1.length) = false := by first | simpa using c5 | (simp at c5 ⊢; omega)
  have HC16 := zA H
  clear H
  go_upto_region 2 with (fail)
  repeat (go_quiet (fail); go_upto_region 2 with (fail))
  have H := HC16.out
  clear HC16
  obtain rfl := Option.some.inj H
  go_wp2
  repeat (go_quiet (fail); try go_wp2)
  go_ret
  exact ⟨zq8, zq14⟩

end Go.Proofs.Ytkcgghgkmgbphaa.PFnExactPutVal
