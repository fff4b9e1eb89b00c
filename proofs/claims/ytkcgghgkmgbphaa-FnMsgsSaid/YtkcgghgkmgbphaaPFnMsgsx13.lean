-- WRITTEN BY a turned copy of the kit's printer (wip/patch_print.py), for this claim
import Derived.Test.YtkcgghgkmgbphaaPFnMsgsx0
import Derived.Test.YtkcgghgkmgbphaaPFnMsgsx9
import Derived.Test.YtkcgghgkmgbphaaPFnMsgsx10
import Derived.Test.YtkcgghgkmgbphaaPFnMsgsx12
namespace Go.Proofs.Ytkcgghgkmgbphaa.PFnMsgs
open Go.RowKit Go.Proofs.YtkcgghgkmgbphaaW.PrintWords Go.Proofs.YtkcgghgkmgbphaaW.PrintLast Go.Proofs.YtkcgghgkmgbphaaW.PrintMore
attribute [local go_sem] max2_int min2_int max_two min_two max_three min_three max_four min_four   -- for this text's walks alone
set_option linter.unusedVariables false
set_option linter.unusedSimpArgs false
set_option maxHeartbeats 8000000
set_option maxRecDepth 100000

attribute [local go_sem] cell_setCell_m
/-! ### impl_PutInt: function 156 -/
mutual
def impl_PutInt.j1 : Nat → Int → Int → Option (List Int)
 | 0, _, _ => none
 | k + 1, x0, x3 => impl_PutInt.l1 k x0 ([] : List Int) (wrap64 (x3 - 1))
def impl_PutInt.l1 : Nat → Int → List Int → Int → Option (List Int)
 | 0, _, _, _ => none
 | k + 1, x0, x4, x5 => if x5 ≥ 0 then (if 0 ≤ (wrap64 (8 * x5)) then (if x4.length < 140737488355328 then (impl_PutInt.l1 k x0 (x4 ++ [(shr .i64 x0 (wrap64 (8 * x5))) % 256]) (wrap64 (x5 - 1))) else (none)) else (none)) else (some x4)
def impl_PutInt.l0 : Nat → Int → Int → Option (List Int)
 | 0, _, _ => none
 | k + 1, x0, x3 => if x3 < 4 then (if 0 ≤ (wrap64 ((wrap64 (8 * x3)) - 1)) then ((impl_in.f x0 (shl .i64 (-1) (wrap64 ((wrap64 (8 * x3)) - 1))) (wrap64 ((shl .i64 1 (wrap64 ((wrap64 (8 * x3)) - 1))) - 1))).bind fun t390 => (if t390 = true then (impl_PutInt.j1 k x0 x3) else (impl_PutInt.l0 k x0 (wrap64 (x3 + 1))))) else (none)) else (impl_PutInt.j1 k x0 x3)
end
def impl_PutInt.f (k : Nat) (a0 : Int) : Option (List Int) := impl_PutInt.l0 k (mx (-2147483648) (mn a0 2147483647)) 1
theorem impl_PutInt.mono_l : ∀ k, (∀ y0 y1, LeO (impl_PutInt.j1 k y0 y1) (impl_PutInt.j1 (k + 1) y0 y1)) ∧ (∀ y0 y1 y2, LeO (impl_PutInt.l1 k y0 y1 y2) (impl_PutInt.l1 (k + 1) y0 y1 y2)) ∧ (∀ y0 y1, LeO (impl_PutInt.l0 k y0 y1) (impl_PutInt.l0 (k + 1) y0 y1))
 | 0 => ⟨fun _ _ r h => by simp [impl_PutInt.j1] at h, fun _ _ _ r h => by simp [impl_PutInt.l1] at h, fun _ _ r h => by simp [impl_PutInt.l0] at h⟩
 | k + 1 => by
  obtain ⟨ih0, ih1, ih2⟩ := impl_PutInt.mono_l k
  refine ⟨?_, ?_, ?_⟩
  ·intro y0 y1
   unfold impl_PutInt.j1
   exact zR
  ·intro y0 y1 y2
   unfold impl_PutInt.l1
   exact zR
  ·intro y0 y1
   unfold impl_PutInt.l0
   exact zR
theorem impl_PutInt.mono : ∀ a0 k, LeO (impl_PutInt.f k a0) (impl_PutInt.f (k + 1) a0) := by
 intro a0 k
 obtain ⟨ih0, ih1, ih2⟩ := impl_PutInt.mono_l k
 unfold impl_PutInt.f
 exact zR
theorem impl_PutInt.calls (k : Nat) (a0 : Int) (r : List Int) (w : World) (h : impl_PutInt.f k a0 = some r) :
  Calls Try.prog 156 #[.int .i64 a0] w fun e w' => ∃ v0_ : Value, e = .returned (v0_) ∧ Kd.R (Kd.int .u8) 5 w' w.heap.size (fun _ => True) v0_ r ∧ Below w.heap.size w w' := by
 have HB := zA (Below.refl w.heap.size w)
 unfold impl_PutInt.f at h
 have H := zA h
 clear h
 go_enter Try.func156, Try.ntmps156
 go_upto_region 0 with fail
 go_upto_region 1 with fail
 obtain ⟨ji4, hji4⟩ : ∃ j_ : Int, (mn a0 2147483647) = j_ := ⟨_, rfl⟩
 replace H : Aside0 ((impl_PutInt.l0 k (mx (-2147483648) (ji4)) 1) = some r) := by first | (rw [hji4] at H; exact H) | (simp only [hji4] at H ⊢; exact H)
 (try (have hji4h : ji4 ≤ 2147483647 := by (rw [← hji4]; unfold mn; (repeat' split) <;> omega)))
 (try (have hji4g : ji4 ≤ 64 := by omega))
 have hji4_ : (if 2147483647 < a0 then 2147483647 else a0) = ji4 := hji4
 obtain ⟨ji5, hji5⟩ : ∃ j_ : Int, (mx (-2147483648) (ji4)) = j_ := ⟨_, rfl⟩
 replace H : Aside0 ((impl_PutInt.l0 k ji5 1) = some r) := by first | (rw [hji5] at H; exact H) | (simp only [hji5] at H ⊢; exact H)
 have hji5_ : (if (-2147483648) < (ji4) then (ji4) else (-2147483648)) = ji5 := hji5
 go_upto_region 2 with fail
 go_upto_block 0 with fail
 go_cut [3] (fun v3 wc => ∃ (kq : Nat) (x3_6 : Int), v3 = .int .i64 x3_6 ∧ Aside0 (impl_PutInt.j1 kq ji5 x3_6 = some r) ∧ Aside0 (kq ≤ k) ∧ Aside0 (Below w.heap.size w wc))
 case first =>
  have H' := H; clear H
  go_wp2
  go_loopg [3] k (fun kq v3 w' => ∃ (x3_1 : Int), v3 = .int .i64 x3_1 ∧ Aside0 (impl_PutInt.l0 kq ji5 x3_1 = some r) ∧ Aside0 (kq ≤ k) ∧ Aside0 (Below w.heap.size w w'))
  case atStart => exact ⟨(1), zq15, H', ⟨Nat.le_refl _⟩, ⟨zq0⟩⟩
  case round =>
   clear H'
   try clear c1
   try clear p2
   obtain ⟨x3_1, rfl, HA, HK1, HB⟩ := hrel
   cases gk with
   | zero => exact absurd HA.out (by simp [impl_PutInt.l0])
   | succ k1 =>
    have H := HA
    clear HA
    simp only [impl_PutInt.l0] at H
    go_upto_region 3 with fail
    replace H := zPd H; rcases H with ⟨c9b0, H⟩ | ⟨c9b0, H⟩
    ·(first | rw [c9b0] | (simp only [i64_w, i32_w]; rw [c9b0]) | skip)
     obtain ⟨ji10, hji10⟩ : ∃ j_ : Int, (wrap64 ((wrap64 (8 * x3_1)) - 1)) = j_ := ⟨_, rfl⟩
     replace H : Aside0 ((if 0 ≤ (ji10) then ((impl_in.f ji5 (shl .i64 (-1) (ji10)) (wrap64 ((shl .i64 1 (ji10)) - 1))).bind fun t390 => (if t390 = true then (impl_PutInt.j1 k1 ji5 x3_1) else (impl_PutInt.l0 k1 ji5 (wrap64 (x3_1 + 1))))) else (none)) = some r) := by first | (rw [hji10] at H; exact H) | (simp only [hji10] at H ⊢; exact H)
     have hji10w : (IntKind.i64.wrap ((wrap64 (8 * x3_1)) - 1)) = ji10 := (i64_w _).trans hji10
     have hji10W : (IntKind.i64.wrap ((IntKind.i64.wrap (8 * x3_1)) - 1)) = ji10 := by simp only [i64_w]; exact hji10
     replace H := zN H; obtain ⟨c11, H⟩ := H
     have c11b0 := eq_true c11
     have c11b1 : decide (0 ≤ (ji10)) = true := decide_eq_true c11
     clear c11
     obtain ⟨ji12, hji12⟩ : ∃ j_ : Int, (shl .i64 (-1) (ji10)) = j_ := ⟨_, rfl⟩
     replace H : Aside0 (((impl_in.f ji5 (ji12) (wrap64 ((shl .i64 1 (ji10)) - 1))).bind fun t390 => (if t390 = true then (impl_PutInt.j1 k1 ji5 x3_1) else (impl_PutInt.l0 k1 ji5 (wrap64 (x3_1 + 1))))) = some r) := by first | (rw [hji12] at H; exact H) | (simp only [hji12] at H ⊢; exact H)
     have hji12_ : (IntKind.i64.wrap ((-1) * 2 ^ min (ji10).toNat 64)) = ji12 := hji12
     have hji12z : (ji10) ≤ 64 → (IntKind.i64.wrap ((-1) * 2 ^ (ji10).toNat)) = ji12 := shl_small hji12
     have hji12u : (IntKind.i64.wrap (-2 ^ min (ji10).toNat 64)) = ji12 := by have h_ := hji12_; rw [Int.neg_one_mul] at h_; exact h_
     have hji12v : (ji10) ≤ 64 → (IntKind.i64.wrap (-2 ^ (ji10).toNat)) = ji12 := fun hle_ => by have h_ := hji12z hle_; rw [Int.neg_one_mul] at h_; exact h_
     have hji12y : (wrap64 ((-1) * 2 ^ min (ji10).toNat 64)) = ji12 := (i64_w _).symm.trans hji12_
     have hji12x : (ji10) ≤ 64 → (wrap64 ((-1) * 2 ^ (ji10).toNat)) = ji12 := fun h_ => (i64_w _).symm.trans (hji12z h_)
     have c13b0 := eq_true (of_decide_eq_true zq13 : 0 ≤ (ji10))
     obtain ⟨ji14, hji14⟩ : ∃ j_ : Int, (shl .i64 1 (ji10)) = j_ := ⟨_, rfl⟩
     replace H : Aside0 (((impl_in.f ji5 (ji12) (wrap64 ((ji14) - 1))).bind fun t390 => (if t390 = true then (impl_PutInt.j1 k1 ji5 x3_1) else (impl_PutInt.l0 k1 ji5 (wrap64 (x3_1 + 1))))) = some r) := by first | (rw [hji14] at H; exact H) | (simp only [hji14] at H ⊢; exact H)
     have hji14_ : (IntKind.i64.wrap (1 * 2 ^ min (ji10).toNat 64)) = ji14 := hji14
     have hji14z : (ji10) ≤ 64 → (IntKind.i64.wrap (1 * 2 ^ (ji10).toNat)) = ji14 := shl_small hji14
     have hji14u : (IntKind.i64.wrap (2 ^ min (ji10).toNat 64)) = ji14 := by have h_ := hji14_; rw [Int.one_mul] at h_; exact h_
     have hji14v : (ji10) ≤ 64 → (IntKind.i64.wrap (2 ^ (ji10).toNat)) = ji14 := fun hle_ => by have h_ := hji14z hle_; rw [Int.one_mul] at h_; exact h_
     have hji14y : (wrap64 (1 * 2 ^ min (ji10).toNat 64)) = ji14 := (i64_w _).symm.trans hji14_
     have hji14x : (ji10) ≤ 64 → (wrap64 (1 * 2 ^ (ji10).toNat)) = ji14 := fun h_ => (i64_w _).symm.trans (hji14z h_)
     replace H := zB H; obtain ⟨t390, A15, H⟩ := H
     try dsimp only at H
     replace H := zE H; rcases H with ⟨rfl, H⟩ | ⟨rfl, H⟩
     ·have H' := H
      clear H
      iterate 2 (go_wp2_with (first | (go_at_call 122; refine calls_of_args (args' := #[.int .i64 ji5, .int .i64 ji12, .int .i64 (wrap64 ((ji14) - 1))]) zq189 ?_; (with_reducible refine (impl_in.calls ji5 ji12 (wrap64 ((ji14) - 1)) true _ A15.out).mono ?_); rintro e w' ⟨rfl, ⟨nd, rfl⟩⟩; (try exact zdd))); try go_quiet (first | (go_at_call 122; refine calls_of_args (args' := #[.int .i64 ji5, .int .i64 ji12, .int .i64 (wrap64 ((ji14) - 1))]) zq189 ?_; (with_reducible refine (impl_in.calls ji5 ji12 (wrap64 ((ji14) - 1)) true _ A15.out).mono ?_); rintro e w' ⟨rfl, ⟨nd, rfl⟩⟩; (try exact zdd))))
      go_meet
      case rel => exact ⟨_, (x3_1), zq15, H', ⟨zq222⟩, ⟨zq0⟩⟩
     iterate 2 (go_upto_region 4 with (first | (go_at_call 122; refine calls_of_args (args' := #[.int .i64 ji5, .int .i64 ji12, .int .i64 (wrap64 ((ji14) - 1))]) zq189 ?_; (with_reducible refine (impl_in.calls ji5 ji12 (wrap64 ((ji14) - 1)) false _ A15.out).mono ?_); rintro e w' ⟨rfl, ⟨nd, rfl⟩⟩; (try exact zdd))); try go_quiet (first | (go_at_call 122; refine calls_of_args (args' := #[.int .i64 ji5, .int .i64 ji12, .int .i64 (wrap64 ((ji14) - 1))]) zq189 ?_; (with_reducible refine (impl_in.calls ji5 ji12 (wrap64 ((ji14) - 1)) false _ A15.out).mono ?_); rintro e w' ⟨rfl, ⟨nd, rfl⟩⟩; (try exact zdd))))
     (try simp only [zvs])
     (try (rw [drewN_self wr]; generalize hq_ : World.drewN wr _ = wr; replace HB := zA (below_at hq_ HB.out); clear hq_))
     have H' := H; clear H
     go_wp2
     go_roundg k1
     case measure => have := HK1.out; omega
     case rel => exact ⟨(wrap64 (x3_1 + 1)), zq15, H', ⟨zq182⟩, ⟨zq0⟩⟩
    (first | rw [c9b0] | (simp only [i64_w, i32_w]; rw [c9b0]) | skip)
    have H' := H; clear H
    iterate 2 (go_wp2; try go_quiet (fail))
    go_meet
    case rel => exact ⟨_, (x3_1), zq15, H', ⟨zq222⟩, ⟨zq0⟩⟩
 case rest =>
  try clear c1
  try clear p2
  try clear p6
  try clear c9
  try clear c9b0
  try clear c11
  try clear c11b0
  try clear c11b1
  try clear c13
  try clear c13b0
  try clear c15
  try clear c16
  try clear p2
  obtain ⟨kq, x3_6, rfl, HA, HJ6, HB⟩ := hcut
  cases kq with
  | zero => exact absurd HA.out (by simp [impl_PutInt.j1])
  | succ kj6 =>
   have H := HA
   clear HA
   simp only [impl_PutInt.j1] at H
   go_upto_region 5 with fail
   go_upto_region 6 with fail
   have H' := H; clear H
   go_wp2
   go_loopg [4, 5] kj6 (fun kq v4 v5 w' => ∃ (x4_2 : List Int) (x5_2 : Int), v5 = .int .i64 x5_2 ∧ Aside0 (impl_PutInt.l1 kq ji5 x4_2 x5_2 = some r) ∧ Aside0 (kq ≤ kj6) ∧ Aside0 (Kd.R (Kd.int .u8) 5 w' w.heap.size (fun _ => True) v4 x4_2) ∧ Aside0 (Below w.heap.size w w'))
   case atStart => exact ⟨(([] : List Int)), (wrap64 (x3_6 - 1)), zq15, H', ⟨Nat.le_refl _⟩, ⟨zq7⟩, ⟨zq0⟩⟩
   case round =>
    clear H'
    try clear c1
    try clear p2
    try clear p6
    try clear c9
    try clear c9b0
    try clear c11
    try clear c11b0
    try clear c11b1
    try clear c13
    try clear c13b0
    try clear c15
    try clear c16
    try clear p2
    try clear p6
    obtain ⟨x4_2, x5_2, rfl, HA, HK2, HO_4, HB⟩ := hrel
    cases gk with
    | zero => exact absurd HA.out (by simp [impl_PutInt.l1])
    | succ k2 =>
     have H := HA
     clear HA
     simp only [impl_PutInt.l1] at H
     go_upto_region 7 with fail
     replace H := zPd H; rcases H with ⟨c21b0, H⟩ | ⟨c21b0, H⟩
     ·go_upto_region 9 with fail
      obtain ⟨ji23, hji23⟩ : ∃ j_ : Int, (wrap64 (8 * x5_2)) = j_ := ⟨_, rfl⟩
      replace H : Aside0 ((if 0 ≤ (ji23) then (if x4_2.length < 140737488355328 then (impl_PutInt.l1 k2 ji5 (x4_2 ++ [(shr .i64 ji5 (ji23)) % 256]) (wrap64 (x5_2 - 1))) else (none)) else (none)) = some r) := by first | (rw [hji23] at H; exact H) | (simp only [hji23] at H ⊢; exact H)
      have hji23w : (IntKind.i64.wrap (8 * x5_2)) = ji23 := (i64_w _).trans hji23
      replace H := zN H; obtain ⟨c24, H⟩ := H
      have c24b0 := eq_true c24
      have c24b1 : decide (0 ≤ (ji23)) = true := decide_eq_true c24
      clear c24
      obtain ⟨ji25, hji25⟩ : ∃ j_ : Int, (shr .i64 ji5 (ji23)) = j_ := ⟨_, rfl⟩
      replace H : Aside0 ((if x4_2.length < 140737488355328 then (impl_PutInt.l1 k2 ji5 (x4_2 ++ [(ji25) % 256]) (wrap64 (x5_2 - 1))) else (none)) = some r) := by first | (rw [hji25] at H; exact H) | (simp only [hji25] at H ⊢; exact H)
      have hji25_ : (ji5 / 2 ^ min (ji23).toNat 64) = ji25 := hji25
      have hji25z : (ji23) ≤ 64 → (ji5 / 2 ^ (ji23).toNat) = ji25 := shr_small hji25
      replace H := zN H; obtain ⟨c26, H⟩ := H
      have LMc26 := zA c26
      clear c26
      obtain ⟨y391, hy391⟩ : ∃ y_ : List Int, y_ = (x4_2 ++ [(ji25) % 256]) := ⟨_, rfl⟩
      rw [← hy391] at H
      have Ny391 := zA hy391
      clear hy391
      go_upto_region 8 with (first | ((with_reducible refine gate_builtin (b := .append) (xs := #[.tmp 33, .tmp 39]) rfl ?_); at_builtin; refine Kd.R_append (Kd.int .u8) (w0 := w) w.heap.size rfl (.tmp 33) (.tmp 39) 22 5 (.int .u8 0) 1 rfl Try.underlying22 info5 rfl zq52 zq183 u4 x4_2 ((ji25) % 256) [.int .u8 ((ji25) % 256)] (fun _ => True) (fun _ => False) rfl rfl ?aP (fun _ hk => hk.elim) ?aF ?aO ?aB ?aS ?aL ?_; (case aP => exact rfl); (case aB => exact zq0); (case aF => exact (fun _ _ => trivial)); (case aO => exact (zrk HO_4.out)); (case aS => exact (below_size zq0)); (case aL => have := LMc26.out; omega); intro v392 w28 ho hb hg hat; rw [← Ny391.out] at ho; replace HB := zA (hb); have HO393 := zA (ho); clear HO_4; clear ho hb hg hat))
      (try simp only [zvs])
      (try (rw [drewN_self w28]; generalize hq_ : World.drewN w28 _ = w28; replace HO393 := zA (Kd.R_at hq_ HO393.out); replace HB := zA (below_at hq_ HB.out); clear hq_))
      have H' := H; clear H
      go_wp2
      go_roundg k2
      case measure => have := HJ6.out; have := HK2.out; omega
      case rel => exact ⟨(y391), (wrap64 (x5_2 - 1)), zq15, H', ⟨(by have := HJ6.out; have := HK2.out; omega)⟩, ⟨(zrk HO393.out)⟩, ⟨zq0⟩⟩
     go_upto_region 10 with fail
     obtain rfl := zi H
     go_wp2
     go_ret
     exact ⟨_, (by first | rfl | (simp [errW_none, errW_some] <;> rfl) | (simp only [← hji4, ← hji5]; first | rfl | (simp [errW_none, errW_some] <;> rfl)) | (simp [*, errW_none, errW_some] <;> rfl)), (zrk HO_4.out), zq0⟩

/-! ### impl_PutVal: function 70 -/
def impl_PutVal.f (k : Nat) (l0 : List Int) (a1_0 : Int) (a1_1 : Int) (a1_2 : ByteArray) (l1_3 : List Int) : Option (List Int) := (impl_ValOk.f k a1_0 a1_1 a1_2 l1_3).bind fun t395 => (if t395 = true then (if a1_0 = 2 then ((impl_PutInt.f k a1_1).bind fun t399 => ((impl_PutTlv.f k l0 a1_0 t399).bind fun t402 => (some t402))) else (if a1_0 = 4 then (if a1_2.size ≤ 140737488355328 then ((impl_PutTlv.f k l0 a1_0 ((bytesOf a1_2 : List Int))).bind fun t408 => (some t408)) else (none)) else (if a1_0 = 6 then ((impl_PutOid.f k l1_3).bind fun t411 => ((impl_PutTlv.f k l0 a1_0 t411).bind fun t414 => (some t414))) else ((impl_PutTlv.f k l0 a1_0 ([] : List Int)).bind fun t417 => (some t417))))) else ((impl_copyBytes.f l0).bind fun t396 => (some t396)))
theorem impl_PutVal.mono : ∀ a0 a1 a2 a3 a4 k, LeO (impl_PutVal.f k a0 a1 a2 a3 a4) (impl_PutVal.f (k + 1) a0 a1 a2 a3 a4) := by
 intro a0 a1 a2 a3 a4 k
 unfold impl_PutVal.f
 have m0_ := @impl_PutInt.mono
 have m1_ := @impl_PutOid.mono
 have m2_ := @impl_PutTlv.mono
 have m3_ := @impl_ValOk.mono
 exact zR
theorem impl_PutVal.calls (k : Nat) (A0 : Option Addr) (c0 : Nat) (l0 : List Int) (a1_0 : Int) (a1_1 : Int) (a1_2 : ByteArray) (A1_3 : Option Addr) (c1_3 : Nat) (l1_3 : List Int) (r : List Int) (w : World) (hr0 : Kd.C (Kd.int .u8) w A0 l0.length l0) (hc0 : l0.length ≤ c0) (hr1_3 : Kd.C (Kd.int .i64) w A1_3 l1_3.length l1_3) (hc1_3 : l1_3.length ≤ c1_3) (h : impl_PutVal.f k l0 a1_0 a1_1 a1_2 l1_3 = some r) :
  Calls Try.prog 70 #[.slice A0 l0.length c0, .agg #[.int .i64 a1_0, .int .i64 a1_1, .string a1_2, .slice A1_3 l1_3.length c1_3]] w fun e w' => ∃ v0_ : Value, e = .returned (v0_) ∧ Kd.R (Kd.int .u8) 5 w' w.heap.size (fun _ => True) v0_ r ∧ Below w.heap.size w w' := by
 have hu76 := Try.underlying76
 have HR0 := zA hr0
 have HC0 := zA hc0
 clear hr0 hc0
 have HR1_3 := zA hr1_3
 have HC1_3 := zA hc1_3
 clear hr1_3 hc1_3
 have HB := zA (Below.refl w.heap.size w)
 unfold impl_PutVal.f at h
 have H := zA h
 clear h
 go_enter Try.func70, Try.ntmps70
 go_upto_region 0 with fail
 go_upto_region 1 with (first | ((with_reducible refine gate_dst (N := 3) rfl ?_); refine box_event ?hg (N := 3) ?hd (cs := #[.int .i64 a1_0, .int .i64 a1_1, .string a1_2, .slice A1_3 l1_3.length c1_3]) (t := 76) ?hr ?_; (case hd => rfl); (case hg => rfl); (case hr => exact zgs); intro gb394 hg w5 hbox hb; have BK394 := zA (hbox); have GW394 := zA ((zq5 : w.heap.size ≤ gb394)); have GE394 := zA ((zq5 : w.heap.size ≤ gb394)); replace HB := zA (below_step zq0 hb); clear hb hbox hg))
 (try simp only [zvs])
 replace H := zB H; obtain ⟨t395, A6, H⟩ := H
 try dsimp only at H
 replace H := zE H; rcases H with ⟨rfl, H⟩ | ⟨rfl, H⟩
 ·have hz9 := zc4 BK394.out
  go_upto_region 3 with (first | ((with_reducible refine zg90 rfl ?_); refine zl90 (some 7) #[.agg #[.int .i64 a1_0, .int .i64 a1_1, .string a1_2, .slice A1_3 l1_3.length c1_3]] ?_; (with_reducible refine (impl_ValOk.calls k a1_0 a1_1 a1_2 _ _ l1_3 true _ ?side1 ?side2 A6.out).mono ?_); (case side1 => exact zq101); (case side2 => exact HC1_3.out); rintro e w10 ⟨rfl, hb⟩; refine ⟨_, rfl, ?_⟩; replace BK394 := zA (zbb BK394.out hb); replace HB := zA (below_step zq0 hb); clear hb))
  (try simp only [zvs])
  go_upto_region 4 with fail
  have hz13 := zc4 BK394.out
  go_upto_region 5 with fail
  replace H := zP H; rcases H with ⟨c14, H⟩ | ⟨c14, H⟩
  ·have c14b0 : (a1_0 == 2) = true := beq_iff_eq.mpr c14
   have c14b1 : (a1_0 != 2) = false := bne_eq_false_iff_eq.mpr c14
   clear c14
   go_upto_region 6 with fail
   replace H := zB H; obtain ⟨t399, A16, H⟩ := H
   try dsimp only at H
   have hz18 := zc4 BK394.out
   go_upto_region 11 with (first | ((with_reducible refine zg156 rfl ?_); refine zl156 (some 17) #[.int .i64 a1_1] ?_; (with_reducible refine (impl_PutInt.calls k a1_1 t399 _ A16.out).mono ?_); rintro e w19 ⟨v400, rfl, ho0, hb⟩; refine ⟨_, rfl, ?_⟩; have HO401 := zA (Kd.R_lower ho0 (below_size zq0)); replace BK394 := zA (zbb BK394.out hb); replace HB := zA (below_step zq0 hb); clear hb ho0))
   (try simp only [zvs])
   replace H := zB H; obtain ⟨t402, A20, H⟩ := H
   try dsimp only at H
   obtain rfl := zi H
   have hz21 := zc4 BK394.out
   obtain ⟨Ao22, co22, eo22⟩ := Kd.R_slice HO401.out
   subst eo22
   go_wp2_with (first | ((with_reducible refine zg107 rfl ?_); refine zl107 (some 32) #[.slice A0 l0.length c0, .int .i64 a1_0, .slice Ao22 t399.length co22] ?_; (with_reducible refine (impl_PutTlv.calls k _ _ l0 a1_0 _ _ t399 t402 _ ?side1 ?side2 ?side3 ?side4 A20.out).mono ?_); (case side1 => exact zq18); (case side2 => exact HC0.out); (case side3 => exact (zck (Kd.R_reads' HO401.out).2.2)); (case side4 => exact (Kd.R_reads' HO401.out).2.1); rintro e w23 ⟨v403, rfl, ho0, hb⟩; refine ⟨_, rfl, ?_⟩; have HO404 := zA (Kd.R_lower (Kd.R_new' ho0 (Kd.R_lt (zrk HO401.out))) (below_size zq0)); replace HO401 := zA (Kd.R_elder' (zrk HO401.out) (Kd.R_base ho0) hb); replace BK394 := zA (zbb BK394.out hb); replace HB := zA (below_step zq0 hb); clear hb ho0))
   go_ret
   exact ⟨_, zq1, (by (with_reducible repeat (first | apply Kd.R_alloc | apply Kd.R_drewN | apply Kd.R_drew)); exact Kd.R_mono HO404.out (fun _ hk => trivial)), zq0⟩
  have c14b0 : (a1_0 == 2) = false := beq_eq_false_iff_ne.mpr c14
  have c14b1 : (a1_0 != 2) = true := bne_iff_ne.mpr c14
  go_upto_region 7 with fail
  replace H := zP H; rcases H with ⟨c25, H⟩ | ⟨c25, H⟩
  ·have c25b0 : (a1_0 == 4) = true := beq_iff_eq.mpr c25
   have c25b1 : (a1_0 != 4) = false := bne_eq_false_iff_eq.mpr c25
   clear c25
   go_upto_region 8 with fail
   replace H := zN H; obtain ⟨c27, H⟩ := H
   have c27b0 := eq_true c27
   have c27b1 : decide (a1_2.size ≤ 140737488355328) = true := decide_eq_true c27
   clear c27
   obtain ⟨y405, hy405⟩ : ∃ y_ : List Int, y_ = ((bytesOf a1_2 : List Int)) := ⟨_, rfl⟩
   rw [← hy405] at H
   have Ny405 := zA hy405
   clear hy405
   have hz29 := zc4 BK394.out
   go_upto_region 11 with (first | ((with_reducible refine gate_dst (N := 22) rfl ?_); refine V_conv _ ?hg (N := 22) ?hd ?hx 9 22 5 ?ho Try.underlying9 Try.underlying22 Try.underlying5 a1_2 ?hr (ok := fun k_ => w10.heap.size ≤ k_) (Nat.le_refl _) ?hm (Below.refl _ _) (Nat.le_refl _) ?_; (case hd => rfl); (case hg => rfl); (case ho => rfl); (case hr => first | rfl | (go_simp; done) | (go_simp; rfl)); (case hm => exact of_decide_eq_true zq13); intro v406 w30 ho31 hb hg_ hnew_; clear hg_ hnew_; (first | rw [← Ny405.out] at ho31 | (simp only [Int.reduceToNat] at ho31; rw [← Ny405.out] at ho31)); have HO407 := zA (Kd.V_lower (Kd.V_mono (ok' := fun k_ => k_ ≠ gb394) ho31 (fun k_ hk_ => (Kd.freshB (g := gb394) (o := .cells #[.int .i64 a1_0, .int .i64 a1_1, .string a1_2, .slice A1_3 l1_3.length c1_3] 76 (0, 0)) (zbk BK394.out) k_ hk_))) (below_size zq0)); replace BK394 := zA (zbb BK394.out hb); replace HB := zA (below_step zq0 hb); clear hb ho31))
   (try simp only [zvs])
   (try (rw [drewN_self w30]; generalize hq_ : World.drewN w30 _ = w30; replace HO407 := zA (Kd.V_at hq_ HO407.out); replace BK394 := zA (blk_at hq_ BK394.out); replace HB := zA (below_at hq_ HB.out); clear hq_))
   replace H := zB H; obtain ⟨t408, A32, H⟩ := H
   try dsimp only at H
   obtain rfl := zi H
   have hz33 := zc4 BK394.out
   obtain ⟨Ao34, co34, eo34⟩ := Kd.V_slice HO407.out
   subst eo34
   go_wp2_with (first | ((with_reducible refine zg107 rfl ?_); refine zl107 (some 32) #[.slice A0 l0.length c0, .int .i64 a1_0, .slice Ao34 y405.length co34] ?_; (with_reducible refine (impl_PutTlv.calls k _ _ l0 a1_0 _ _ y405 t408 _ ?side1 ?side2 ?side3 ?side4 A32.out).mono ?_); (case side1 => exact zq18); (case side2 => exact HC0.out); (case side3 => exact (by repeat (first | exact (Kd.V_reads' HO407.out).2.2 | (with_reducible refine Kd.C_alloc ?_ _) | (with_reducible refine Kd.C_drewN ?_ _) | (with_reducible refine Kd.C_drew ?_)))); (case side4 => exact (Kd.V_reads' HO407.out).2.1); rintro e w35 ⟨v409, rfl, ho0, hb⟩; refine ⟨_, rfl, ?_⟩; replace HO407 := zA (Kd.V_elder' (by (with_reducible repeat (first | apply Kd.V_alloc | apply Kd.V_drewN | apply Kd.V_drew)); exact HO407.out) (Kd.R_base ho0) hb); have HO410 := zA (Kd.R_lower ho0 (below_size zq0)); replace BK394 := zA (zbb BK394.out hb); replace HB := zA (below_step zq0 hb); clear hb ho0))
   go_ret
   exact ⟨_, zq1, (zrk HO410.out), zq0⟩
  have c25b0 : (a1_0 == 4) = false := beq_eq_false_iff_ne.mpr c25
  have c25b1 : (a1_0 != 4) = true := bne_iff_ne.mpr c25
  go_upto_region 9 with fail
  replace H := zP H; rcases H with ⟨c37, H⟩ | ⟨c37, H⟩
  ·have c37b0 : (a1_0 == 6) = true := beq_iff_eq.mpr c37
   have c37b1 : (a1_0 != 6) = false := bne_eq_false_iff_eq.mpr c37
   clear c37
   go_upto_region 10 with fail
   replace H := zB H; obtain ⟨t411, A39, H⟩ := H
   try dsimp only at H
   have hz41 := zc4 BK394.out
   go_upto_region 11 with (first | ((with_reducible refine zg108 rfl ?_); refine zl108 (some 27) #[.slice A1_3 l1_3.length c1_3] ?_; (with_reducible refine (impl_PutOid.calls k _ _ l1_3 t411 _ ?side1 ?side2 A39.out).mono ?_); (case side1 => exact zq101); (case side2 => exact HC1_3.out); rintro e w42 ⟨v412, rfl, ho0, hb⟩; refine ⟨_, rfl, ?_⟩; have HO413 := zA (Kd.R_lower ho0 (below_size zq0)); replace BK394 := zA (zbb BK394.out hb); replace HB := zA (below_step zq0 hb); clear hb ho0))
   (try simp only [zvs])
   replace H := zB H; obtain ⟨t414, A43, H⟩ := H
   try dsimp only at H
   obtain rfl := zi H
   have hz44 := zc4 BK394.out
   obtain ⟨Ao45, co45, eo45⟩ := Kd.R_slice HO413.out
   subst eo45
   go_wp2_with (first | ((with_reducible refine zg107 rfl ?_); refine zl107 (some 32) #[.slice A0 l0.length c0, .int .i64 a1_0, .slice Ao45 t411.length co45] ?_; (with_reducible refine (impl_PutTlv.calls k _ _ l0 a1_0 _ _ t411 t414 _ ?side1 ?side2 ?side3 ?side4 A43.out).mono ?_); (case side1 => exact zq18); (case side2 => exact HC0.out); (case side3 => exact (zck (Kd.R_reads' HO413.out).2.2)); (case side4 => exact (Kd.R_reads' HO413.out).2.1); rintro e w46 ⟨v415, rfl, ho0, hb⟩; refine ⟨_, rfl, ?_⟩; have HO416 := zA (Kd.R_lower (Kd.R_new' ho0 (Kd.R_lt (zrk HO413.out))) (below_size zq0)); replace HO413 := zA (Kd.R_elder' (zrk HO413.out) (Kd.R_base ho0) hb); replace BK394 := zA (zbb BK394.out hb); replace HB := zA (below_step zq0 hb); clear hb ho0))
   go_ret
   exact ⟨_, zq1, (by (with_reducible repeat (first | apply Kd.R_alloc | apply Kd.R_drewN | apply Kd.R_drew)); exact Kd.R_mono HO416.out (fun _ hk => trivial)), zq0⟩
  have c37b0 : (a1_0 == 6) = false := beq_eq_false_iff_ne.mpr c37
  have c37b1 : (a1_0 != 6) = true := bne_iff_ne.mpr c37
  go_upto_region 11 with fail
  replace H := zB H; obtain ⟨t417, A48, H⟩ := H
  try dsimp only at H
  obtain rfl := zi H
  have hz49 := zc4 BK394.out
  go_wp2_with (first | ((with_reducible refine zg107 rfl ?_); refine zl107 (some 32) #[.slice A0 l0.length c0, .int .i64 a1_0, .slice none 0 0] ?_; (refine (impl_PutTlv.calls k _ _ l0 a1_0 _ _ ([] : List Int) t417 _ ?side1 ?side2 ?side3 ?side4 A48.out).mono ?_); (case side1 => exact zq18); (case side2 => exact HC0.out); (case side3 => exact Kd.C_nil _ _); (case side4 => exact Nat.le_refl _); rintro e w50 ⟨v418, rfl, ho0, hb⟩; refine ⟨_, rfl, ?_⟩; have HO419 := zA (Kd.R_lower ho0 (below_size zq0)); replace BK394 := zA (zbb BK394.out hb); replace HB := zA (below_step zq0 hb); clear hb ho0))
  go_ret
  exact ⟨_, zq1, (zrk HO419.out), zq0⟩
 have hz52 := zc4 BK394.out
 go_upto_region 2 with (first | ((with_reducible refine zg90 rfl ?_); refine zl90 (some 7) #[.agg #[.int .i64 a1_0, .int .i64 a1_1, .string a1_2, .slice A1_3 l1_3.length c1_3]] ?_; (with_reducible refine (impl_ValOk.calls k a1_0 a1_1 a1_2 _ _ l1_3 false _ ?side1 ?side2 A6.out).mono ?_); (case side1 => exact zq101); (case side2 => exact HC1_3.out); rintro e w53 ⟨rfl, hb⟩; refine ⟨_, rfl, ?_⟩; replace BK394 := zA (zbb BK394.out hb); replace HB := zA (below_step zq0 hb); clear hb))
 (try simp only [zvs])
 replace H := zB H; obtain ⟨t396, A54, H⟩ := H
 try dsimp only at H
 obtain rfl := zi H
 go_wp2_with (first | ((with_reducible refine zg155 rfl ?_); refine zl155 (some 10) #[.slice A0 l0.length c0] ?_; (with_reducible refine (impl_copyBytes.calls _ _ l0 t396 _ ?side1 ?side2 A54.out).mono ?_); (case side1 => exact zq18); (case side2 => exact HC0.out); rintro e w55 ⟨v397, rfl, ho0, hb⟩; refine ⟨_, rfl, ?_⟩; have HO398 := zA (Kd.R_lower ho0 (below_size zq0)); replace BK394 := zA (zbb BK394.out hb); replace HB := zA (below_step zq0 hb); clear hb ho0))
 go_ret
 exact ⟨_, zq1, (zrk HO398.out), zq0⟩

/-! ### impl_addNum: function 109 -/
def impl_addNum.f (k : Nat) (l0 : List Int) (a1 : Int) (a2 : Int) : Option (List Int) := (impl_PutInt.f k a2).bind fun t420 => ((impl_PutTlv.f k l0 a1 t420).bind fun t423 => (some t423))
theorem impl_addNum.mono : ∀ a0 a1 a2 k, LeO (impl_addNum.f k a0 a1 a2) (impl_addNum.f (k + 1) a0 a1 a2) := by
 intro a0 a1 a2 k
 unfold impl_addNum.f
 have m0_ := @impl_PutInt.mono
 have m1_ := @impl_PutTlv.mono
 exact zR
theorem impl_addNum.calls (k : Nat) (A0 : Option Addr) (c0 : Nat) (l0 : List Int) (a1 : Int) (a2 : Int) (r : List Int) (w : World) (hr0 : Kd.C (Kd.int .u8) w A0 l0.length l0) (hc0 : l0.length ≤ c0) (h : impl_addNum.f k l0 a1 a2 = some r) :
  Calls Try.prog 109 #[.slice A0 l0.length c0, .int .i64 a1, .int .i64 a2] w fun e w' => ∃ v0_ : Value, e = .returned (v0_) ∧ Kd.R (Kd.int .u8) 5 w' w.heap.size (fun _ => True) v0_ r ∧ Below w.heap.size w w' := by
 have HR0 := zA hr0
 have HC0 := zA hc0
 clear hr0 hc0
 have HB := zA (Below.refl w.heap.size w)
 unfold impl_addNum.f at h
 have H := zA h
 clear h
 go_enter Try.func109, Try.ntmps109
 go_upto_region 0 with fail
 go_upto_region 1 with fail
 replace H := zB H; obtain ⟨t420, A6, H⟩ := H
 try dsimp only at H
 replace H := zB H; obtain ⟨t423, A7, H⟩ := H
 try dsimp only at H
 obtain rfl := zi H
 go_wp2_with (first | ((with_reducible refine zg156 rfl ?_); refine zl156 (some 10) #[.int .i64 a2] ?_; (with_reducible refine (impl_PutInt.calls k a2 t420 _ A6.out).mono ?_); rintro e w8 ⟨v421, rfl, ho0, hb⟩; refine ⟨_, rfl, ?_⟩; have HO422 := zA (Kd.R_lower ho0 (below_size zq0)); replace HB := zA (below_step zq0 hb); clear hb ho0; obtain ⟨Ao9, co9, eo9⟩ := Kd.R_slice HO422.out; subst eo9) | ((with_reducible refine zg107 rfl ?_); refine zl107 (some 11) #[.slice A0 l0.length c0, .int .i64 a1, .slice Ao9 t420.length co9] ?_; (with_reducible refine (impl_PutTlv.calls k _ _ l0 a1 _ _ t420 t423 _ ?side1 ?side2 ?side3 ?side4 A7.out).mono ?_); (case side1 => exact zq18); (case side2 => exact HC0.out); (case side3 => exact (zck (Kd.R_reads' HO422.out).2.2)); (case side4 => exact (Kd.R_reads' HO422.out).2.1); rintro e w10 ⟨v424, rfl, ho0, hb⟩; refine ⟨_, rfl, ?_⟩; have HO425 := zA (Kd.R_lower (Kd.R_new' ho0 (Kd.R_lt (zrk HO422.out))) (below_size zq0)); replace HO422 := zA (Kd.R_elder' (zrk HO422.out) (Kd.R_base ho0) hb); replace HB := zA (below_step zq0 hb); clear hb ho0))
 go_ret
 exact ⟨_, zq1, (by (with_reducible repeat (first | apply Kd.R_alloc | apply Kd.R_drewN | apply Kd.R_drew)); exact Kd.R_mono HO425.out (fun _ hk => trivial)), zq0⟩

end Go.Proofs.Ytkcgghgkmgbphaa.PFnMsgs
