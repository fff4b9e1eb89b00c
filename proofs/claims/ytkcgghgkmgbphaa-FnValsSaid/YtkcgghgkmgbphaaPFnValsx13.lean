-- WRITTEN BY a turned copy of the kit's printer (wip/patch_print.py), for this claim
import Derived.Test.YtkcgghgkmgbphaaPFnValsx0
import Derived.Test.YtkcgghgkmgbphaaPFnValsx6
import Derived.Test.YtkcgghgkmgbphaaPFnValsx7
import Derived.Test.YtkcgghgkmgbphaaPFnValsx8
namespace Go.Proofs.Ytkcgghgkmgbphaa.PFnVals
open Go.RowKit Go.Proofs.YtkcgghgkmgbphaaW.PrintWords Go.Proofs.YtkcgghgkmgbphaaW.PrintLast Go.Proofs.YtkcgghgkmgbphaaW.PrintMore
attribute [local go_sem] max2_int min2_int max_two min_two max_three min_three max_four min_four   -- for this text's walks alone
set_option linter.unusedVariables false
set_option linter.unusedSimpArgs false

/-! ### spec_GetInt: function 172 -/
mutual
def spec_GetInt.j0 : Nat → List Int → Int → Option (Int × Bool)
 | 0, _, _ => none
 | k + 1, x0, x4 => spec_GetInt.l0 k x0 x4 1
def spec_GetInt.l0 : Nat → List Int → Int → Int → Option (Int × Bool)
 | 0, _, _, _ => none
 | k + 1, x0, x4, x5 => if x5 < (x0.length : Int) then (if 0 ≤ x5 then (spec_GetInt.l0 k x0 (Go.bits .or .i64 (wrap64 (x4 * 256)) (wrap64 (rd x0 x5))) (wrap64 (x5 + 1))) else (none)) else ((spec_PutInt.f k x4).bind fun t620 => (if (t620.length : Int) = (x0.length : Int) then (some (x4, true)) else (some (0, false))))
end
def spec_GetInt.f (k : Nat) (l0 : List Int) : Option (Int × Bool) := (spec_l1In.f (l0.length : Int) 1 4).bind fun t617 => (if t617 = true then (if 0 < (l0.length : Int) then (if (wrap64 (rd l0 0)) > 127 then (spec_GetInt.j0 k l0 (wrap64 ((wrap64 (rd l0 0)) - 256))) else (spec_GetInt.j0 k l0 (wrap64 (rd l0 0)))) else (none)) else (some (0, false)))
theorem spec_GetInt.mono_l : ∀ k, (∀ y0 y1, LeO (spec_GetInt.j0 k y0 y1) (spec_GetInt.j0 (k + 1) y0 y1)) ∧ (∀ y0 y1 y2, LeO (spec_GetInt.l0 k y0 y1 y2) (spec_GetInt.l0 (k + 1) y0 y1 y2))
 | 0 => ⟨fun _ _ r h => by simp [spec_GetInt.j0] at h, fun _ _ _ r h => by simp [spec_GetInt.l0] at h⟩
 | k + 1 => by
  obtain ⟨ih0, ih1⟩ := spec_GetInt.mono_l k
  refine ⟨?_, ?_⟩
  ·intro y0 y1
   unfold spec_GetInt.j0
   have m0_ := @spec_PutInt.mono
   exact zR
  ·intro y0 y1 y2
   unfold spec_GetInt.l0
   have m0_ := @spec_PutInt.mono
   exact zR
theorem spec_GetInt.mono : ∀ a0 k, LeO (spec_GetInt.f k a0) (spec_GetInt.f (k + 1) a0) := by
 intro a0 k
 obtain ⟨ih0, ih1⟩ := spec_GetInt.mono_l k
 unfold spec_GetInt.f
 have m0_ := @spec_PutInt.mono
 exact zR
set_option maxHeartbeats 8000000 in
set_option maxRecDepth 100000 in
theorem spec_GetInt.calls (k : Nat) (A0 : Option Addr) (c0 : Nat) (l0 : List Int) (r1 : Int) (r2 : Bool) (w : World) (hr0 : Kd.C (Kd.int .u8) w A0 l0.length l0) (hc0 : l0.length ≤ c0) (h : spec_GetInt.f k l0 = some (r1, r2)) :
  Calls Try.prog 172 #[.slice A0 l0.length c0] w fun e w' => e = .returned (.tuple #[.int .i64 r1, .bool r2]) ∧ Below w.heap.size w w' := by
 have HR0 := zA hr0
 have HC0 := zA hc0
 clear hr0 hc0
 have HB := zA (Below.refl w.heap.size w)
 unfold spec_GetInt.f at h
 have H := h
 clear h
 have HC2 := zA H
 clear H
 go_enter Try.func172, Try.ntmps172
 go_upto_region 0 with (fail)
 have H := HC2.out
 clear HC2
 have HC3 := zA H
 clear H
 go_upto_region 1 with (fail)
 have H := HC3.out
 clear HC3
 obtain ⟨t617, A4, H⟩ := zB H
 try dsimp only at H
 by_cases c5 : t617 = true
 ·subst c5
  rw [if_pos rfl] at H
  have HC6 := zA H
  clear H
  go_upto_region 3 with (first | ((with_reducible refine gate_callee (f := 150) rfl ?_); refine goesL_ (some 8) rfl rfl Try.func150 (by kernel_rfl) rfl #[.int .i64 (l0.length : Int), .int .i64 1, .int .i64 4] rfl zq1 ?_; (with_reducible refine (spec_l1In.calls (l0.length : Int) 1 4 true _ A4.out).mono ?_); rintro e w' ⟨rfl, ⟨nd, rfl⟩⟩; refine ⟨_, rfl, ?_⟩))
  (try simp only [Act.put, List.setIfInBounds_toArray, List.set_cons_zero, List.set_cons_succ])
  have H := HC6.out
  clear HC6
  obtain ⟨c7, H⟩ := zN H
  have c7b0 : decide (0 < (l0.length : Int)) = true := decide_eq_true c7
  have c7b1 : decide (0 < l0.length) = true := decide_eq_true zq144
  clear c7
  have HC8 := zA H
  clear H
  have p618 : 0 ≤ (0 : Int) := zq144
  have q618 : 0 < (l0.length : Int) := of_decide_eq_true zq7
  obtain ⟨ad618, e618, hx618_0⟩ := Kd.at_int HR0.out 0 p618 q618
  cases e618
  have qi618 : (0 < l0.length) = True := eq_true zq144
  (try rw [show ((0 : Int)).toNat = 0 from rfl] at hx618_0)
  (try rw [Addr.add_zero'] at hx618_0)
  replace hx618_0 := (HB.out.cell (World.block_lt_of_cell? w _ hx618_0)).trans hx618_0
  replace p618 := eq_true p618
  replace q618 := eq_true q618
  go_upto_region 4 with (fail)
  have H := HC8.out
  clear HC8
  have HC9 := zA H
  clear H
  go_upto_if 15 with (fail)
  go_cut [4] (fun v4 wc => ∃ (kq : Nat) (x4_8 : Int), v4 = .int .i64 x4_8 ∧ Aside0 (spec_GetInt.j0 kq l0 x4_8 = some (r1, r2)) ∧ Aside0 (kq ≤ k) ∧ Aside0 (Below w.heap.size w wc))
  case first =>
   have H := HC9.out
   clear HC9
   by_cases c10 : (wrap64 (rd l0 0)) > 127
   ·rw [if_pos c10] at H
    have c10b0 : decide (127 < (wrap64 (rd l0 0))) = true := decide_eq_true c10
    clear c10
    (first | rw [c10b0] | (simp only [i64_w, i32_w]; rw [c10b0]) | skip)
    have HC11 := zA H
    clear H
    go_upto_region 5 with (fail)
    have H := HC11.out
    clear HC11
    have H' := zA H
    clear H
    go_wp2
    go_meet
    case rel => exact ⟨_, (wrap64 ((wrap64 (rd l0 0)) - 256)), zq10, H', ⟨zq132⟩, ⟨zq0⟩⟩
   ·rw [if_neg c10] at H
    have c10b0 : decide (127 < (wrap64 (rd l0 0))) = false := decide_eq_false c10
    clear c10
    (first | rw [c10b0] | (simp only [i64_w, i32_w]; rw [c10b0]) | skip)
    have H' := zA H
    clear H
    go_wp2
    go_meet
    case rel => exact ⟨_, (wrap64 (rd l0 0)), zq10, H', ⟨zq132⟩, ⟨zq0⟩⟩
  case rest =>
   clear HC9
   try clear c1
   try clear p2
   try clear c5
   try clear p6
   try clear q6
   try clear hx6
   try clear qi6
   try clear c7
   try clear c7b0
   try clear c7b1
   try clear c10
   try clear c10b0
   try clear hx618_0
   try clear p618
   try clear q618
   obtain ⟨kq, x4_8, rfl, HA, HJ8, HB⟩ := hcut
   cases kq with
   | zero => exact absurd HA.out (by simp [spec_GetInt.j0])
   | succ kj8 =>
    have H := HA.out
    clear HA
    simp only [spec_GetInt.j0] at H
    have HC12 := zA H
    clear H
    go_upto_region 6 with (fail)
    have H := HC12.out
    clear HC12
    have H' := zA H
    clear H
    go_wp2
    go_loopg [4, 5] kj8 (fun kq v4 v5 w' => ∃ (x4_2 : Int) (x5_2 : Int), v4 = .int .i64 x4_2 ∧ v5 = .int .i64 x5_2 ∧ Aside0 (spec_GetInt.l0 kq l0 x4_2 x5_2 = some (r1, r2)) ∧ Aside0 (kq ≤ kj8) ∧ Aside0 (Below w.heap.size w w'))
    case atStart => exact ⟨(x4_8), (1), zq10, zq10, H', ⟨Nat.le_refl _⟩, ⟨zq0⟩⟩
    case round =>
     clear H'
     try clear c1
     try clear p2
     try clear c5
     try clear p6
     try clear q6
     try clear hx6
     try clear qi6
     try clear c7
     try clear c7b0
     try clear c7b1
     try clear c10
     try clear c10b0
     try clear hx618_0
     try clear p2
     try clear p6
     try clear p618
     try clear q6
     try clear q618
     obtain ⟨x4_2, x5_2, rfl, rfl, HA, HK2, HB⟩ := hrel
     cases gk with
     | zero => exact absurd HA.out (by simp [spec_GetInt.l0])
     | succ k2 =>
      have H := HA.out
      clear HA
      simp only [spec_GetInt.l0] at H
      have HC13 := zA H
      clear H
      go_upto_region 7 with (fail)
      have H := HC13.out
      clear HC13
      by_cases c14 : x5_2 < (l0.length : Int)
      ·rw [if_pos c14] at H
       have c14b0 : decide (x5_2 < (l0.length : Int)) = true := decide_eq_true c14
       clear c14
       have HC15 := zA H
       clear H
       go_upto_region 9 with (fail)
       have H := HC15.out
       clear HC15
       obtain ⟨c16, H⟩ := zN H
       have c16b0 : decide (0 ≤ x5_2) = true := decide_eq_true c16
       clear c16
       have HC17 := zA H
       clear H
       have p619 : 0 ≤ (x5_2 : Int) := of_decide_eq_true zq7
       have q619 : x5_2 < (l0.length : Int) := of_decide_eq_true zq7
       obtain ⟨ad619, e619, hx619_0⟩ := Kd.at_int HR0.out x5_2 p619 q619
       obtain rfl : ad618 = ad619 := (by injection e619)
       replace hx619_0 := (HB.out.cell (World.block_lt_of_cell? w _ hx619_0)).trans hx619_0
       replace p619 := eq_true p619
       replace q619 := eq_true q619
       go_upto_region 8 with (fail)
       have H := HC17.out
       clear HC17
       have H' := zA H
       clear H
       go_wp2
       go_roundg k2
       case measure => have := HJ8.out; have := HK2.out; omega
       case rel => exact ⟨(Go.bits .or .i64 (wrap64 (x4_2 * 256)) (wrap64 (rd l0 x5_2))), (wrap64 (x5_2 + 1)), zq10, zq10, H', ⟨(by have := HJ8.out; have := HK2.out; omega)⟩, ⟨zq0⟩⟩
      ·rw [if_neg c14] at H
       have c14b0 : decide (x5_2 < (l0.length : Int)) = false := decide_eq_false c14
       clear c14
       have HC18 := zA H
       clear H
       go_upto_region 10 with (fail)
       have H := HC18.out
       clear HC18
       obtain ⟨t620, A19, H⟩ := zB H
       try dsimp only at H
       by_cases c20 : (t620.length : Int) = (l0.length : Int)
       ·rw [if_pos c20] at H
        have c20b0 : ((t620.length : Int) == (l0.length : Int)) = true := beq_iff_eq.mpr c20
        have c20b1 : ((t620.length : Int) != (l0.length : Int)) = false := bne_eq_false_iff_eq.mpr c20
        have c20b2 : (t620.length == l0.length) = true := by first | simpa using c20 | (simp at c20 ⊢; omega)
        clear c20
        have HC21 := zA H
        clear H
        go_upto_region 12 with (first | ((with_reducible refine gate_callee (f := 152) rfl ?_); refine goesL_ (some 33) rfl rfl Try.func152 (by kernel_rfl) rfl #[.int .i64 x4_2] rfl zq1 ?_; (with_reducible refine (spec_PutInt.calls k2 x4_2 t620 _ A19.out).mono ?_); rintro e w22 ⟨v621, rfl, ho0, hb⟩; refine ⟨_, rfl, ?_⟩; have HO622 := zA (Kd.R_lower ho0 (below_size zq0)); replace HB := zA (below_step zq0 hb); clear hb ho0; obtain ⟨Ao23, co23, eo23⟩ := Kd.R_slice HO622.out; subst eo23))
        (try simp only [Act.put, List.setIfInBounds_toArray, List.set_cons_zero, List.set_cons_succ])
        have H := HC21.out
        clear HC21
        simp only [Option.some.injEq, Prod.mk.injEq] at H
        obtain ⟨rfl, rfl⟩ := H
        go_wp2
        go_ret2
        exact ⟨zq2, zq0⟩
       ·rw [if_neg c20] at H
        have c20b0 : ((t620.length : Int) == (l0.length : Int)) = false := beq_eq_false_iff_ne.mpr c20
        have c20b1 : ((t620.length : Int) != (l0.length : Int)) = true := bne_iff_ne.mpr c20
        have c20b2 : (t620.length == l0.length) = false := by first | simpa using c20 | (simp at c20 ⊢; omega)
        have HC24 := zA H
        clear H
        go_upto_region 11 with (first | ((with_reducible refine gate_callee (f := 152) rfl ?_); refine goesL_ (some 33) rfl rfl Try.func152 (by kernel_rfl) rfl #[.int .i64 x4_2] rfl zq1 ?_; (with_reducible refine (spec_PutInt.calls k2 x4_2 t620 _ A19.out).mono ?_); rintro e w25 ⟨v621, rfl, ho0, hb⟩; refine ⟨_, rfl, ?_⟩; have HO622 := zA (Kd.R_lower ho0 (below_size zq0)); replace HB := zA (below_step zq0 hb); clear hb ho0; obtain ⟨Ao26, co26, eo26⟩ := Kd.R_slice HO622.out; subst eo26))
        (try simp only [Act.put, List.setIfInBounds_toArray, List.set_cons_zero, List.set_cons_succ])
        have H := HC24.out
        clear HC24
        simp only [Option.some.injEq, Prod.mk.injEq] at H
        obtain ⟨rfl, rfl⟩ := H
        go_wp2
        go_ret2
        exact ⟨zq2, zq0⟩
 ·replace c5 := Bool.eq_false_iff.mpr c5
  subst c5
  rw [if_neg zF] at H
  have HC27 := zA H
  clear H
  go_upto_region 2 with (first | ((with_reducible refine gate_callee (f := 150) rfl ?_); refine goesL_ (some 8) rfl rfl Try.func150 (by kernel_rfl) rfl #[.int .i64 (l0.length : Int), .int .i64 1, .int .i64 4] rfl zq1 ?_; (with_reducible refine (spec_l1In.calls (l0.length : Int) 1 4 false _ A4.out).mono ?_); rintro e w' ⟨rfl, ⟨nd, rfl⟩⟩; refine ⟨_, rfl, ?_⟩))
  (try simp only [Act.put, List.setIfInBounds_toArray, List.set_cons_zero, List.set_cons_succ])
  have H := HC27.out
  clear HC27
  simp only [Option.some.injEq, Prod.mk.injEq] at H
  obtain ⟨rfl, rfl⟩ := H
  go_wp2
  go_ret2
  exact ⟨zq2, zq0⟩

/-! ### spec_GetOid: function 173 -/
mutual
def spec_GetOid.l0 : Nat → List Int → List Int → Int → Option (List Int × Bool)
 | 0, _, _, _ => none
 | k + 1, x0, x4, x5 => if x5 < (x0.length : Int) then (spec_GetOid.j1 k x0 x4 x5 (decide ((x4.length : Int) ≤ 10))) else (spec_GetOid.j1 k x0 x4 x5 false)
def spec_GetOid.j1 : Nat → List Int → List Int → Int → Bool → Option (List Int × Bool)
 | 0, _, _, _, _ => none
 | k + 1, x0, x4, x5, x18 => if x18 = true then (spec_GetOid.l1 k x0 x4 x5 0 0 true) else (if x5 = (x0.length : Int) then ((spec_OidOk.f k x4).bind fun t626 => (if t626 = true then (some (x4, true)) else (some ((([] : List Int)), false)))) else (some ((([] : List Int)), false)))
def spec_GetOid.l1 : Nat → List Int → List Int → Int → Int → Int → Bool → Option (List Int × Bool)
 | 0, _, _, _, _, _, _ => none
 | k + 1, x0, x4, x5, x6, x7, x8 => if x8 = true then (if x5 < (x0.length : Int) then (if x7 < 4 then (if 0 ≤ x5 then (spec_GetOid.l1 k x0 x4 (wrap64 (x5 + 1)) (Go.bits .or .i64 (wrap64 (x6 * 128)) (wrap64 (Go.bits .and .u8 (rd x0 x5) 127))) (wrap64 (x7 + 1)) (decide ((rd x0 x5) > 127))) else (none)) else (some ((([] : List Int)), false))) else (some ((([] : List Int)), false))) else ((spec_l2Group.f k x6).bind fun t641 => (if (t641.length : Int) = x7 then (if x4.length < 17592186044416 then (spec_GetOid.l0 k x0 (x4 ++ [x6]) x5) else (none)) else (some ((([] : List Int)), false))))
end
def spec_GetOid.f (k : Nat) (l0 : List Int) : Option (List Int × Bool) := spec_GetOid.l0 k l0 (([] : List Int)) 0
theorem spec_GetOid.mono_l : ∀ k, (∀ y0 y1 y2, LeO (spec_GetOid.l0 k y0 y1 y2) (spec_GetOid.l0 (k + 1) y0 y1 y2)) ∧ (∀ y0 y1 y2 y3, LeO (spec_GetOid.j1 k y0 y1 y2 y3) (spec_GetOid.j1 (k + 1) y0 y1 y2 y3)) ∧ (∀ y0 y1 y2 y3 y4 y5, LeO (spec_GetOid.l1 k y0 y1 y2 y3 y4 y5) (spec_GetOid.l1 (k + 1) y0 y1 y2 y3 y4 y5))
 | 0 => ⟨fun _ _ _ r h => by simp [spec_GetOid.l0] at h, fun _ _ _ _ r h => by simp [spec_GetOid.j1] at h, fun _ _ _ _ _ _ r h => by simp [spec_GetOid.l1] at h⟩
 | k + 1 => by
  obtain ⟨ih0, ih1, ih2⟩ := spec_GetOid.mono_l k
  refine ⟨?_, ?_, ?_⟩
  ·intro y0 y1 y2
   unfold spec_GetOid.l0
   have m0_ := @spec_OidOk.mono
   have m1_ := @spec_l2Group.mono
   exact zR
  ·intro y0 y1 y2 y3
   unfold spec_GetOid.j1
   have m0_ := @spec_OidOk.mono
   have m1_ := @spec_l2Group.mono
   exact zR
  ·intro y0 y1 y2 y3 y4 y5
   unfold spec_GetOid.l1
   have m0_ := @spec_OidOk.mono
   have m1_ := @spec_l2Group.mono
   exact zR
theorem spec_GetOid.mono : ∀ a0 k, LeO (spec_GetOid.f k a0) (spec_GetOid.f (k + 1) a0) := by
 intro a0 k
 obtain ⟨ih0, ih1, ih2⟩ := spec_GetOid.mono_l k
 unfold spec_GetOid.f
 have m0_ := @spec_OidOk.mono
 have m1_ := @spec_l2Group.mono
 exact zR
set_option maxHeartbeats 8000000 in
set_option maxRecDepth 100000 in
theorem spec_GetOid.calls (k : Nat) (A0 : Option Addr) (c0 : Nat) (l0 : List Int) (r1 : List Int) (r2 : Bool) (w : World) (hr0 : Kd.C (Kd.int .u8) w A0 l0.length l0) (hc0 : l0.length ≤ c0) (h : spec_GetOid.f k l0 = some (r1, r2)) :
  Calls Try.prog 173 #[.slice A0 l0.length c0] w fun e w' => ∃ v0_ : Value, e = .returned (.tuple #[v0_, .bool r2]) ∧ Kd.R (Kd.int .i64) 3 w' w.heap.size (fun _ => True) v0_ r1 ∧ Below w.heap.size w w' := by
 have HR0 := zA hr0
 have HC0 := zA hc0
 clear hr0 hc0
 have HB := zA (Below.refl w.heap.size w)
 unfold spec_GetOid.f at h
 have H := h
 clear h
 have HC2 := zA H
 clear H
 go_enter Try.func173, Try.ntmps173
 go_upto_region 0 with (fail)
 have H := HC2.out
 clear HC2
 have HC3 := zA H
 clear H
 go_upto_region 1 with (fail)
 have H := HC3.out
 clear HC3
 obtain ⟨y623, hy623⟩ : ∃ y_ : List Int, y_ = (([] : List Int)) := ⟨_, rfl⟩
 rw [← hy623] at H
 have Ny623 := zA hy623
 clear hy623
 have HC4 := zA H
 clear H
 go_upto_region 2 with (first | ((with_reducible refine gate_dst (N := 9) rfl ?_); (try (refine gate_guard zq84 ?_; dsimp only)); refine Kd.R_lit (Kd.int .i64) _ 3 ?hg (N := 9) ?hd (xs := ([] : List Int)) (inner := []) (ok := fun _ => True) (okp := fun _ => True) ?hr ?hp (fun _ hk => hk) trivial (Below.refl _ _) (Nat.le_refl _) zq134 ?_; (case hd => rfl); (case hg => rfl); (case hr => first | (go_simp; done) | (go_simp; rfl)); (case hp => exact (Reps.none _ _)); intro v624 w5 ho6 hb hg_ hnew_; clear hg_ hnew_; (first | rw [← Ny623.out] at ho6 | (simp only [Int.reduceToNat] at ho6; rw [← Ny623.out] at ho6)); have HO625 := zA (Kd.R_lower ho6 (below_size zq0)); replace HB := zA (below_step zq0 hb); clear hb ho6))
 (try simp only [Act.put, List.setIfInBounds_toArray, List.set_cons_zero, List.set_cons_succ])
 have H := HC4.out
 clear HC4
 have H' := zA H
 clear H
 go_wp2
 go_loopg [4, 5] k (fun kq v4 v5 w' => ∃ (x4_1 : List Int) (x5_1 : Int), v5 = .int .i64 x5_1 ∧ Aside0 (spec_GetOid.l0 kq l0 x4_1 x5_1 = some (r1, r2)) ∧ Aside0 (kq ≤ k) ∧ Aside0 (Kd.R (Kd.int .i64) 3 w' w.heap.size (fun _ => True) v4 x4_1) ∧ Aside0 (Below w.heap.size w w'))
 case atStart => exact ⟨(y623), (0), zq10, H', ⟨Nat.le_refl _⟩, ⟨(by (with_reducible repeat (first | apply Kd.R_alloc | apply Kd.R_drewN | apply Kd.R_drew)); exact HO625.out)⟩, ⟨zq0⟩⟩
 case round =>
  clear H'
  try clear c1
  try clear p2
  obtain ⟨x4_1, x5_1, rfl, HA, HK1, HO_4, HB⟩ := hrel
  cases gk with
  | zero => exact absurd HA.out (by simp [spec_GetOid.l0])
  | succ k1 =>
   have H := HA.out
   clear HA
   simp only [spec_GetOid.l0] at H
   have HC7 := zA H
   clear H
   go_upto_region 3 with (fail)
   have H := HC7.out
   clear HC7
   have HC8 := zA H
   clear H
   go_upto_region 3 with (fail)
   go_cut [18] (fun v18 wc => ∃ (kq : Nat) (x18_7 : Bool), v18 = .bool x18_7 ∧ Aside0 (spec_GetOid.j1 kq l0 x4_1 x5_1 x18_7 = some (r1, r2)) ∧ Aside0 (kq ≤ k1) ∧ Aside0 (Kd.R (Kd.int .i64) 3 wc w.heap.size (fun _ => True) u4 x4_1) ∧ Aside0 (Below w.heap.size w wc))
   case first =>
    have H := HC8.out
    clear HC8
    by_cases c9 : x5_1 < (l0.length : Int)
    ·rw [if_pos c9] at H
     have c9b0 : decide (x5_1 < (l0.length : Int)) = true := decide_eq_true c9
     clear c9
     (first | rw [c9b0] | (simp only [i64_w, i32_w]; rw [c9b0]) | skip)
     have H' := zA H
     clear H
     obtain ⟨Ao10, co10, eo10⟩ := Kd.R_slice HO_4.out
     subst eo10
     go_wp2
     go_meet
     case rel => exact ⟨_, (decide ((x4_1.length : Int) ≤ 10)), zq10, H', ⟨zq199⟩, ⟨zq27⟩, ⟨zq0⟩⟩
    ·rw [if_neg c9] at H
     have c9b0 : decide (x5_1 < (l0.length : Int)) = false := decide_eq_false c9
     clear c9
     (first | rw [c9b0] | (simp only [i64_w, i32_w]; rw [c9b0]) | skip)
     have H' := zA H
     clear H
     go_wp2
     go_meet
     case rel => exact ⟨_, (false), zq10, H', ⟨zq199⟩, ⟨zq27⟩, ⟨zq0⟩⟩
   case rest =>
    clear HC8
    try clear c1
    try clear p2
    try clear c9
    try clear c9b0
    try clear p2
    obtain ⟨kq, x18_7, rfl, HA, HJ7, HO_4, HB⟩ := hcut
    cases kq with
    | zero => exact absurd HA.out (by simp [spec_GetOid.j1])
    | succ kj7 =>
     have H := HA.out
     clear HA
     simp only [spec_GetOid.j1] at H
     by_cases c11 : x18_7 = true
     ·subst c11
      rw [if_pos rfl] at H
      have HC12 := zA H
      clear H
      go_upto_region 4 with (fail)
      have H := HC12.out
      clear HC12
      have HC13 := zA H
      clear H
      go_upto_region 5 with (fail)
      have H := HC13.out
      clear HC13
      have HC14 := zA H
      clear H
      go_upto_region 6 with (fail)
      have H := HC14.out
      clear HC14
      have H' := zA H
      clear H
      go_wp2
      go_loopg [5, 6, 7, 8] kj7 (fun kq v5 v6 v7 v8 w' => ∃ (x5_3 : Int) (x6_3 : Int) (x7_3 : Int) (x8_3 : Bool), v5 = .int .i64 x5_3 ∧ v6 = .int .i64 x6_3 ∧ v7 = .int .i64 x7_3 ∧ v8 = .bool x8_3 ∧ Aside0 (spec_GetOid.l1 kq l0 x4_1 x5_3 x6_3 x7_3 x8_3 = some (r1, r2)) ∧ Aside0 (kq ≤ kj7) ∧ Aside0 (Kd.R (Kd.int .i64) 3 w' w.heap.size (fun _ => True) u4 x4_1) ∧ Aside0 (Below w.heap.size w w'))
      case atStart => exact ⟨(x5_1), (0), (0), (true), zq10, zq10, zq10, zq10, H', ⟨Nat.le_refl _⟩, ⟨zq27⟩, ⟨zq0⟩⟩
      case round =>
       clear H'
       try clear c1
       try clear p2
       try clear c9
       try clear c9b0
       try clear c11
       try clear p2
       obtain ⟨x5_3, x6_3, x7_3, x8_3, rfl, rfl, rfl, rfl, HA, HK3, HO_4, HB⟩ := hrel
       cases gk with
       | zero => exact absurd HA.out (by simp [spec_GetOid.l1])
       | succ k3 =>
        have H := HA.out
        clear HA
        simp only [spec_GetOid.l1] at H
        have HC15 := zA H
        clear H
        go_upto_region 7 with (fail)
        have H := HC15.out
        clear HC15
        by_cases c16 : x8_3 = true
        ·subst c16
         rw [if_pos rfl] at H
         by_cases c17 : x5_3 < (l0.length : Int)
         ·rw [if_pos c17] at H
          have c17b0 : decide (x5_3 < (l0.length : Int)) = true := decide_eq_true c17
          clear c17
          by_cases c18 : x7_3 < 4
          ·rw [if_pos c18] at H
           have c18b0 : decide (x7_3 < 4) = true := decide_eq_true c18
           clear c18
           have HC19 := zA H
           clear H
           go_upto_region 8 with (fail)
           have H := HC19.out
           clear HC19
           obtain ⟨c20, H⟩ := zN H
           have c20b0 : decide (0 ≤ x5_3) = true := decide_eq_true c20
           clear c20
           have HC21 := zA H
           clear H
           have p633 : 0 ≤ (x5_3 : Int) := of_decide_eq_true zq7
           have q633 : x5_3 < (l0.length : Int) := of_decide_eq_true zq7
           obtain ⟨ad633, e633, hx633_0⟩ := Kd.at_int HR0.out x5_3 p633 q633
           cases e633
           replace hx633_0 := (HB.out.cell (World.block_lt_of_cell? w _ hx633_0)).trans hx633_0
           replace p633 := eq_true p633
           replace q633 := eq_true q633
           go_upto_region 9 with (fail)
           have H := HC21.out
           clear HC21
           have HC22 := zA H
           clear H
           have p634 : 0 ≤ (x5_3 : Int) := of_decide_eq_true zq7
           have q634 : x5_3 < (l0.length : Int) := of_decide_eq_true zq7
           obtain ⟨ad634, e634, hx634_0⟩ := Kd.at_int HR0.out x5_3 p634 q634
           obtain rfl : ad633 = ad634 := (by injection e634)
           replace hx634_0 := (HB.out.cell (World.block_lt_of_cell? w _ hx634_0)).trans hx634_0
           replace p634 := eq_true p634
           replace q634 := eq_true q634
           go_upto_region 10 with (fail)
           have H := HC22.out
           clear HC22
           have HC23 := zA H
           clear H
           go_upto_region 11 with (fail)
           have H := HC23.out
           clear HC23
           have H' := zA H
           clear H
           go_wp2
           go_roundg k3
           case measure => have := HK1.out; have := HJ7.out; have := HK3.out; omega
           case rel => exact ⟨(wrap64 (x5_3 + 1)), (Go.bits .or .i64 (wrap64 (x6_3 * 128)) (wrap64 (Go.bits .and .u8 (rd l0 x5_3) 127))), (wrap64 (x7_3 + 1)), (decide ((rd l0 x5_3) > 127)), zq10, zq10, zq10, zq10, H', ⟨(by have := HK1.out; have := HJ7.out; have := HK3.out; omega)⟩, ⟨zq27⟩, ⟨zq0⟩⟩
          ·rw [if_neg c18] at H
           have c18b0 : decide (x7_3 < 4) = false := decide_eq_false c18
           clear c18
           have HC24 := zA H
           clear H
           go_upto_region 12 with (fail)
           have H := HC24.out
           clear HC24
           have HC25 := zA H
           clear H
           go_upto_region 13 with (fail)
           have H := HC25.out
           clear HC25
           obtain ⟨y635, hy635⟩ : ∃ y_ : List Int, y_ = (([] : List Int)) := ⟨_, rfl⟩
           rw [← hy635] at H
           have Ny635 := zA hy635
           clear hy635
           simp only [Option.some.injEq, Prod.mk.injEq] at H
           obtain ⟨rfl, rfl⟩ := H
           go_wp2_with (first | ((with_reducible refine gate_dst (N := 56) rfl ?_); (try (refine gate_guard zq84 ?_; dsimp only)); refine Kd.R_lit (Kd.int .i64) _ 3 ?hg (N := 56) ?hd (xs := ([] : List Int)) (inner := []) (ok := fun _ => True) (okp := fun _ => True) ?hr ?hp (fun _ hk => hk) trivial (Below.refl _ _) (Nat.le_refl _) zq134 ?_; (case hd => rfl); (case hg => rfl); (case hr => first | (go_simp; done) | (go_simp; rfl)); (case hp => exact (Reps.none _ _)); intro v636 w26 ho27 hb hg_ hnew_; clear hg_ hnew_; (first | rw [← Ny635.out] at ho27 | (simp only [Int.reduceToNat] at ho27; rw [← Ny635.out] at ho27)); have HO637 := zA (Kd.R_lower (Kd.R_new' ho27 (Kd.R_lt zq27)) (below_size zq0)); replace HO_4 := zA (Kd.R_elder' zq27 (Kd.R_base ho27) hb); replace HB := zA (below_step zq0 hb); clear hb ho27))
           go_ret2
           exact ⟨_, zq2, (by (with_reducible repeat (first | apply Kd.R_alloc | apply Kd.R_drewN | apply Kd.R_drew)); exact Kd.R_mono HO637.out (fun _ hk => trivial)), zq0⟩
         ·rw [if_neg c17] at H
          have c17b0 : decide (x5_3 < (l0.length : Int)) = false := decide_eq_false c17
          clear c17
          have HC28 := zA H
          clear H
          go_upto_region 12 with (fail)
          have H := HC28.out
          clear HC28
          have HC29 := zA H
          clear H
          go_upto_region 13 with (fail)
          have H := HC29.out
          clear HC29
          obtain ⟨y638, hy638⟩ : ∃ y_ : List Int, y_ = (([] : List Int)) := ⟨_, rfl⟩
          rw [← hy638] at H
          have Ny638 := zA hy638
          clear hy638
          simp only [Option.some.injEq, Prod.mk.injEq] at H
          obtain ⟨rfl, rfl⟩ := H
          go_wp2_with (first | ((with_reducible refine gate_dst (N := 56) rfl ?_); (try (refine gate_guard zq84 ?_; dsimp only)); refine Kd.R_lit (Kd.int .i64) _ 3 ?hg (N := 56) ?hd (xs := ([] : List Int)) (inner := []) (ok := fun _ => True) (okp := fun _ => True) ?hr ?hp (fun _ hk => hk) trivial (Below.refl _ _) (Nat.le_refl _) zq134 ?_; (case hd => rfl); (case hg => rfl); (case hr => first | (go_simp; done) | (go_simp; rfl)); (case hp => exact (Reps.none _ _)); intro v639 w30 ho31 hb hg_ hnew_; clear hg_ hnew_; (first | rw [← Ny638.out] at ho31 | (simp only [Int.reduceToNat] at ho31; rw [← Ny638.out] at ho31)); have HO640 := zA (Kd.R_lower (Kd.R_new' ho31 (Kd.R_lt zq27)) (below_size zq0)); replace HO_4 := zA (Kd.R_elder' zq27 (Kd.R_base ho31) hb); replace HB := zA (below_step zq0 hb); clear hb ho31))
          go_ret2
          exact ⟨_, zq2, (by (with_reducible repeat (first | apply Kd.R_alloc | apply Kd.R_drewN | apply Kd.R_drew)); exact Kd.R_mono HO640.out (fun _ hk => trivial)), zq0⟩
        ·replace c16 := Bool.eq_false_iff.mpr c16
         subst c16
         rw [if_neg zF] at H
         have HC32 := zA H
         clear H
         go_upto_region 12 with (fail)
         have H := HC32.out
         clear HC32
         obtain ⟨t641, A33, H⟩ := zB H
         try dsimp only at H
         by_cases c34 : (t641.length : Int) = x7_3
         ·rw [if_pos c34] at H
          have c34b0 : ((t641.length : Int) == x7_3) = true := beq_iff_eq.mpr c34
          have c34b1 : ((t641.length : Int) != x7_3) = false := bne_eq_false_iff_eq.mpr c34
          clear c34
          have HC35 := zA H
          clear H
          go_upto_region 14 with (first | (go_at_call 185; (with_reducible refine (spec_l2Group.calls k3 x6_3 t641 _ A33.out).mono ?_); rintro e w36 ⟨v642, rfl, ho0, hb⟩; replace HO_4 := zA (Kd.R_below zq27 hb); have HO643 := zA (Kd.R_lower ho0 (below_size zq0)); replace HB := zA (below_step zq0 hb); clear hb ho0; obtain ⟨Ao37, co37, eo37⟩ := Kd.R_slice HO643.out; subst eo37))
          (try simp only [Act.put, List.setIfInBounds_toArray, List.set_cons_zero, List.set_cons_succ])
          have H := HC35.out
          clear HC35
          obtain ⟨c38, H⟩ := zN H
          have LMc38 := zA c38
          clear c38
          obtain ⟨y644, hy644⟩ : ∃ y_ : List Int, y_ = (x4_1 ++ [x6_3]) := ⟨_, rfl⟩
          rw [← hy644] at H
          have Ny644 := zA hy644
          clear hy644
          have H' := zA H
          clear H
          go_wp2_with (first | ((with_reducible refine gate_builtin (b := .append) (xs := #[.tmp 57, .tmp 59]) rfl ?_); (try (refine gate_guard zq84 ?_; dsimp only)); at_builtin; refine Kd.R_append (Kd.int .i64) (w0 := w) w.heap.size rfl (.tmp 57) (.tmp 59) 71 3 (.int .i64 0) 8 rfl Try.underlying71 info3 rfl zq39 zq144 u4 x4_1 x6_3 [.int .i64 x6_3] (fun _ => True) (fun _ => False) rfl rfl ?aP (fun _ hk => hk.elim) ?aF ?aO ?aB ?aS ?aL ?_; (case aP => exact rfl); (case aB => exact zq0); (case aF => exact (fun _ _ => trivial)); (case aO => exact zq27); (case aS => exact (below_size zq0)); (case aL => have := LMc38.out; omega); intro v645 w39 ho hb hg hat; rw [← Ny644.out] at ho; replace HO643 := zA (Kd.R_over' zq215 (Kd.R_typed zq27) zq39 hg); replace HB := zA (hb); have HO646 := zA (ho); clear HO_4; clear ho hb hg hat))
          go_roundg k3
          case measure => have := HK1.out; have := HJ7.out; have := HK3.out; omega
          case rel => exact ⟨(y644), (x5_3), zq10, H', ⟨(by have := HK1.out; have := HJ7.out; have := HK3.out; omega)⟩, ⟨(by (with_reducible repeat (first | apply Kd.R_alloc | apply Kd.R_drewN | apply Kd.R_drew)); exact HO646.out)⟩, ⟨zq0⟩⟩
         ·rw [if_neg c34] at H
          have c34b0 : ((t641.length : Int) == x7_3) = false := beq_eq_false_iff_ne.mpr c34
          have c34b1 : ((t641.length : Int) != x7_3) = true := bne_iff_ne.mpr c34
          have HC40 := zA H
          clear H
          go_upto_region 13 with (first | (go_at_call 185; (with_reducible refine (spec_l2Group.calls k3 x6_3 t641 _ A33.out).mono ?_); rintro e w41 ⟨v642, rfl, ho0, hb⟩; replace HO_4 := zA (Kd.R_below zq27 hb); have HO643 := zA (Kd.R_lower ho0 (below_size zq0)); replace HB := zA (below_step zq0 hb); clear hb ho0; obtain ⟨Ao42, co42, eo42⟩ := Kd.R_slice HO643.out; subst eo42))
          (try simp only [Act.put, List.setIfInBounds_toArray, List.set_cons_zero, List.set_cons_succ])
          have H := HC40.out
          clear HC40
          obtain ⟨y647, hy647⟩ : ∃ y_ : List Int, y_ = (([] : List Int)) := ⟨_, rfl⟩
          rw [← hy647] at H
          have Ny647 := zA hy647
          clear hy647
          simp only [Option.some.injEq, Prod.mk.injEq] at H
          obtain ⟨rfl, rfl⟩ := H
          go_wp2_with (first | ((with_reducible refine gate_dst (N := 56) rfl ?_); (try (refine gate_guard zq84 ?_; dsimp only)); refine Kd.R_lit (Kd.int .i64) _ 3 ?hg (N := 56) ?hd (xs := ([] : List Int)) (inner := []) (ok := fun _ => True) (okp := fun _ => True) ?hr ?hp (fun _ hk => hk) trivial (Below.refl _ _) (Nat.le_refl _) zq134 ?_; (case hd => rfl); (case hg => rfl); (case hr => first | (go_simp; done) | (go_simp; rfl)); (case hp => exact (Reps.none _ _)); intro v648 w43 ho44 hb hg_ hnew_; clear hg_ hnew_; (first | rw [← Ny647.out] at ho44 | (simp only [Int.reduceToNat] at ho44; rw [← Ny647.out] at ho44)); replace HO643 := zA (Kd.R_below zq215 hb); have HO649 := zA (Kd.R_lower (Kd.R_new' ho44 (Kd.R_lt zq27)) (below_size zq0)); replace HO_4 := zA (Kd.R_elder' zq27 (Kd.R_base ho44) hb); replace HB := zA (below_step zq0 hb); clear hb ho44))
          go_ret2
          exact ⟨_, zq2, (by (with_reducible repeat (first | apply Kd.R_alloc | apply Kd.R_drewN | apply Kd.R_drew)); exact Kd.R_mono HO649.out (fun _ hk => trivial)), zq0⟩
     ·replace c11 := Bool.eq_false_iff.mpr c11
      subst c11
      rw [if_neg zF] at H
      have HC45 := zA H
      clear H
      go_upto_region 15 with (fail)
      have H := HC45.out
      clear HC45
      by_cases c46 : x5_1 = (l0.length : Int)
      ·rw [if_pos c46] at H
       have c46b0 : (x5_1 == (l0.length : Int)) = true := beq_iff_eq.mpr c46
       have c46b1 : (x5_1 != (l0.length : Int)) = false := bne_eq_false_iff_eq.mpr c46
       clear c46
       obtain ⟨t626, A47, H⟩ := zB H
       try dsimp only at H
       by_cases c48 : t626 = true
       ·subst c48
        rw [if_pos rfl] at H
        have HC49 := zA H
        clear H
        obtain ⟨Ao50, co50, eo50⟩ := Kd.R_slice HO_4.out
        subst eo50
        go_upto_region 17 with (first | (go_at_call 175; (with_reducible refine (spec_OidOk.calls kj7 _ _ x4_1 true _ ?side1 ?side2 A47.out).mono ?_); (case side1 => repeat (first | exact (Kd.R_reads' HO_4.out).2.2 | (with_reducible refine Kd.C_alloc ?_ _) | (with_reducible refine Kd.C_drewN ?_ _) | (with_reducible refine Kd.C_drew ?_))); (case side2 => exact (Kd.R_reads' HO_4.out).2.1); rintro e w' ⟨rfl, ⟨nd, rfl⟩⟩))
        (try simp only [Act.put, List.setIfInBounds_toArray, List.set_cons_zero, List.set_cons_succ])
        have H := HC49.out
        clear HC49
        simp only [Option.some.injEq, Prod.mk.injEq] at H
        obtain ⟨rfl, rfl⟩ := H
        go_wp2
        go_ret2
        exact ⟨_, zq2, zq27, zq0⟩
       ·replace c48 := Bool.eq_false_iff.mpr c48
        subst c48
        rw [if_neg zF] at H
        have HC51 := zA H
        clear H
        obtain ⟨Ao52, co52, eo52⟩ := Kd.R_slice HO_4.out
        subst eo52
        go_upto_region 16 with (first | (go_at_call 175; (with_reducible refine (spec_OidOk.calls kj7 _ _ x4_1 false _ ?side1 ?side2 A47.out).mono ?_); (case side1 => repeat (first | exact (Kd.R_reads' HO_4.out).2.2 | (with_reducible refine Kd.C_alloc ?_ _) | (with_reducible refine Kd.C_drewN ?_ _) | (with_reducible refine Kd.C_drew ?_))); (case side2 => exact (Kd.R_reads' HO_4.out).2.1); rintro e w' ⟨rfl, ⟨nd, rfl⟩⟩))
        (try simp only [Act.put, List.setIfInBounds_toArray, List.set_cons_zero, List.set_cons_succ])
        have H := HC51.out
        clear HC51
        obtain ⟨y627, hy627⟩ : ∃ y_ : List Int, y_ = (([] : List Int)) := ⟨_, rfl⟩
        rw [← hy627] at H
        have Ny627 := zA hy627
        clear hy627
        simp only [Option.some.injEq, Prod.mk.injEq] at H
        obtain ⟨rfl, rfl⟩ := H
        go_wp2_with (first | ((with_reducible refine gate_dst (N := 70) rfl ?_); (try (refine gate_guard zq84 ?_; dsimp only)); refine Kd.R_lit (Kd.int .i64) _ 3 ?hg (N := 70) ?hd (xs := ([] : List Int)) (inner := []) (ok := fun _ => True) (okp := fun _ => True) ?hr ?hp (fun _ hk => hk) trivial (Below.refl _ _) (Nat.le_refl _) zq134 ?_; (case hd => rfl); (case hg => rfl); (case hr => first | (go_simp; done) | (go_simp; rfl)); (case hp => exact (Reps.none _ _)); intro v628 w53 ho54 hb hg_ hnew_; clear hg_ hnew_; (first | rw [← Ny627.out] at ho54 | (simp only [Int.reduceToNat] at ho54; rw [← Ny627.out] at ho54)); have HO629 := zA (Kd.R_lower (Kd.R_new' ho54 (Kd.R_lt zq27)) (below_size zq0)); replace HO_4 := zA (Kd.R_elder' zq27 (Kd.R_base ho54) hb); replace HB := zA (below_step zq0 hb); clear hb ho54))
        go_ret2
        exact ⟨_, zq2, (by (with_reducible repeat (first | apply Kd.R_alloc | apply Kd.R_drewN | apply Kd.R_drew)); exact Kd.R_mono HO629.out (fun _ hk => trivial)), zq0⟩
      ·rw [if_neg c46] at H
       have c46b0 : (x5_1 == (l0.length : Int)) = false := beq_eq_false_iff_ne.mpr c46
       have c46b1 : (x5_1 != (l0.length : Int)) = true := bne_iff_ne.mpr c46
       have HC55 := zA H
       clear H
       go_upto_region 16 with (fail)
       have H := HC55.out
       clear HC55
       obtain ⟨y630, hy630⟩ : ∃ y_ : List Int, y_ = (([] : List Int)) := ⟨_, rfl⟩
       rw [← hy630] at H
       have Ny630 := zA hy630
       clear hy630
       simp only [Option.some.injEq, Prod.mk.injEq] at H
       obtain ⟨rfl, rfl⟩ := H
       go_wp2_with (first | ((with_reducible refine gate_dst (N := 70) rfl ?_); (try (refine gate_guard zq84 ?_; dsimp only)); refine Kd.R_lit (Kd.int .i64) _ 3 ?hg (N := 70) ?hd (xs := ([] : List Int)) (inner := []) (ok := fun _ => True) (okp := fun _ => True) ?hr ?hp (fun _ hk => hk) trivial (Below.refl _ _) (Nat.le_refl _) zq134 ?_; (case hd => rfl); (case hg => rfl); (case hr => first | (go_simp; done) | (go_simp; rfl)); (case hp => exact (Reps.none _ _)); intro v631 w56 ho57 hb hg_ hnew_; clear hg_ hnew_; (first | rw [← Ny630.out] at ho57 | (simp only [Int.reduceToNat] at ho57; rw [← Ny630.out] at ho57)); have HO632 := zA (Kd.R_lower (Kd.R_new' ho57 (Kd.R_lt zq27)) (below_size zq0)); replace HO_4 := zA (Kd.R_elder' zq27 (Kd.R_base ho57) hb); replace HB := zA (below_step zq0 hb); clear hb ho57))
       go_ret2
       exact ⟨_, zq2, (by (with_reducible repeat (first | apply Kd.R_alloc | apply Kd.R_drewN | apply Kd.R_drew)); exact Kd.R_mono HO632.out (fun _ hk => trivial)), zq0⟩

end Go.Proofs.Ytkcgghgkmgbphaa.PFnVals
