-- WRITTEN BY a turned copy of the kit's printer (wip/patch_print.py), for this claim
import Derived.Test.YtkcgghgkmgbphaaPFnValsx0
import Derived.Test.YtkcgghgkmgbphaaPFnValsx1
import Derived.Test.YtkcgghgkmgbphaaPFnValsx3
namespace Go.Proofs.Ytkcgghgkmgbphaa.PFnVals
open Go.RowKit Go.Proofs.YtkcgghgkmgbphaaW.PrintWords Go.Proofs.YtkcgghgkmgbphaaW.PrintLast Go.Proofs.YtkcgghgkmgbphaaW.PrintMore
attribute [local go_sem] max2_int min2_int max_two min_two max_three min_three max_four min_four   -- for this text's walks alone
set_option linter.unusedVariables false
set_option linter.unusedSimpArgs false

/-! ### impl_GetInt: function 170 -/
def impl_GetInt.l0 : Nat → List Int → Int → List Int → Int → Int → Option (Int × Bool)
 | 0, _, _, _, _, _ => none
 | k + 1, x0, x4, x17, x18, x19 => if x19 < x18 then (if 0 ≤ x19 then (if x19 < (x17.length : Int) then (impl_GetInt.l0 k x0 (Go.bits .or .i64 (wrap64 (x4 * 256)) (wrap64 (rd x17 x19))) x17 x18 (wrap64 (x19 + 1))) else (none)) else (none)) else ((impl_PutInt.f k x4).bind fun t540 => (if (t540.length : Int) = (x0.length : Int) then (some (x4, true)) else (some (0, false))))
def impl_GetInt.f (k : Nat) (l0 : List Int) : Option (Int × Bool) := (impl_in.f (l0.length : Int) 1 4).bind fun t536 => (if t536 = true then (if 0 < (l0.length : Int) then (if 1 ≤ (l0.length : Int) then (impl_GetInt.l0 k l0 (wrap64 (IntKind.i8.wrap (rd l0 0))) (l0.drop 1) ((l0.drop 1).length : Int) 0) else (none)) else (none)) else (some (0, false)))
theorem impl_GetInt.mono_l : ∀ k, (∀ y0 y1 y2 y3 y4, LeO (impl_GetInt.l0 k y0 y1 y2 y3 y4) (impl_GetInt.l0 (k + 1) y0 y1 y2 y3 y4))
 | 0 => fun _ _ _ _ _ r h => by simp [impl_GetInt.l0] at h
 | k + 1 => by
  have ih0 := impl_GetInt.mono_l k
  ·intro y0 y1 y2 y3 y4
   unfold impl_GetInt.l0
   have m0_ := @impl_PutInt.mono
   exact zR
theorem impl_GetInt.mono : ∀ a0 k, LeO (impl_GetInt.f k a0) (impl_GetInt.f (k + 1) a0) := by
 intro a0 k
 have ih0 := impl_GetInt.mono_l k
 unfold impl_GetInt.f
 have m0_ := @impl_PutInt.mono
 exact zR
set_option maxHeartbeats 8000000 in
set_option maxRecDepth 100000 in
theorem impl_GetInt.calls (k : Nat) (A0 : Option Addr) (c0 : Nat) (l0 : List Int) (r1 : Int) (r2 : Bool) (w : World) (hr0 : Kd.C (Kd.int .u8) w A0 l0.length l0) (hc0 : l0.length ≤ c0) (h : impl_GetInt.f k l0 = some (r1, r2)) :
  Calls Try.prog 170 #[.slice A0 l0.length c0] w fun e w' => e = .returned (.tuple #[.int .i64 r1, .bool r2]) ∧ Below w.heap.size w w' := by
 have HR0 := zA hr0
 have HC0 := zA hc0
 clear hr0 hc0
 have HB := zA (Below.refl w.heap.size w)
 unfold impl_GetInt.f at h
 have H := h
 clear h
 have HC2 := zA H
 clear H
 go_enter Try.func170, Try.ntmps170
 go_upto_region 0 with (fail)
 have H := HC2.out
 clear HC2
 have HC3 := zA H
 clear H
 go_upto_region 1 with (fail)
 have H := HC3.out
 clear HC3
 obtain ⟨t536, A4, H⟩ := zB H
 try dsimp only at H
 by_cases c5 : t536 = true
 ·subst c5
  rw [if_pos rfl] at H
  have HC6 := zA H
  clear H
  go_upto_region 3 with (first | ((with_reducible refine gate_callee (f := 122) rfl ?_); refine goesL_ (some 9) rfl rfl Try.func122 (by kernel_rfl) rfl #[.int .i64 (l0.length : Int), .int .i64 1, .int .i64 4] rfl zq1 ?_; (with_reducible refine (impl_in.calls (l0.length : Int) 1 4 true _ A4.out).mono ?_); rintro e w' ⟨rfl, ⟨nd, rfl⟩⟩; refine ⟨_, rfl, ?_⟩))
  (try simp only [Act.put, List.setIfInBounds_toArray, List.set_cons_zero, List.set_cons_succ])
  have H := HC6.out
  clear HC6
  obtain ⟨c7, H⟩ := zN H
  have c7b0 : decide (0 < (l0.length : Int)) = true := decide_eq_true c7
  have c7b1 : decide (0 < l0.length) = true := decide_eq_true zq144
  clear c7
  have HC8 := zA H
  clear H
  have p537 : 0 ≤ (0 : Int) := zq144
  have q537 : 0 < (l0.length : Int) := of_decide_eq_true zq7
  obtain ⟨ad537, e537, hx537_0⟩ := Kd.at_int HR0.out 0 p537 q537
  cases e537
  have qi537 : (0 < l0.length) = True := eq_true zq144
  (try rw [show ((0 : Int)).toNat = 0 from rfl] at hx537_0)
  (try rw [Addr.add_zero'] at hx537_0)
  replace hx537_0 := (HB.out.cell (World.block_lt_of_cell? w _ hx537_0)).trans hx537_0
  replace p537 := eq_true p537
  replace q537 := eq_true q537
  go_upto_region 4 with (fail)
  have H := HC8.out
  clear HC8
  obtain ⟨c9, H⟩ := zN H
  have c9b0 := eq_true c9
  have c9b1 : decide (1 ≤ (l0.length : Int)) = true := decide_eq_true c9
  clear c9
  have H' := zA H
  clear H
  obtain ⟨i010, hi010, _, hsz10, _⟩ := info_parts info5
  obtain ⟨A10, hcut10, hA10, hC10⟩ := print_drop_of (P := Try.prog) (Value.int .u8) 0 22 5 .i64 Try.underlying22 hi010 hsz10 (some ad537) c0 l0 1 zq144 (of_decide_eq_true zq7) HC0.out
  have HR538 := zA (Kd.C_of_reads (h1 := fun _ => rfl) (hA10 _ (Kd.reads_of_C HR0.out)))
  have HC538 := zA hC10
  clear hA10 hC10 hi010 hsz10
  go_wp2
  go_loopg [4, 19] k (fun kq v4 v19 w' => ∃ (x4_1 : Int) (x19_1 : Int), v4 = .int .i64 x4_1 ∧ v19 = .int .i64 x19_1 ∧ Aside0 (impl_GetInt.l0 kq l0 x4_1 (l0.drop 1) ((l0.drop 1).length : Int) x19_1 = some (r1, r2)) ∧ Aside0 (kq ≤ k) ∧ Aside0 (Below w.heap.size w w'))
  case atStart => exact ⟨(wrap64 (IntKind.i8.wrap (rd l0 0))), (0), zq10, zq10, H', ⟨Nat.le_refl _⟩, ⟨zq0⟩⟩
  case round =>
   clear H'
   try clear c1
   try clear p2
   try clear c5
   try clear p5
   try clear q5
   try clear hx5
   try clear qi5
   try clear p6
   try clear c7
   try clear c7b0
   try clear c7b1
   try clear c9
   try clear c9b0
   try clear c9b1
   try clear hx537_0
   try clear p537
   try clear q537
   obtain ⟨x4_1, x19_1, rfl, rfl, HA, HK1, HB⟩ := hrel
   cases gk with
   | zero => exact absurd HA.out (by simp [impl_GetInt.l0])
   | succ k1 =>
    have H := HA.out
    clear HA
    simp only [impl_GetInt.l0] at H
    have HC11 := zA H
    clear H
    go_upto_region 5 with (fail)
    have H := HC11.out
    clear HC11
    by_cases c12 : x19_1 < ((l0.drop 1).length : Int)
    ·rw [if_pos c12] at H
     have c12b0 : decide (x19_1 < ((l0.drop 1).length : Int)) = true := decide_eq_true c12
     (try (have c12bz := c12b0; rw [List.length_drop] at c12bz))
     clear c12
     have HC13 := zA H
     clear H
     go_upto_region 6 with (fail)
     have H := HC13.out
     clear HC13
     obtain ⟨c14, H⟩ := zN H
     have c14b0 : decide (0 ≤ x19_1) = true := decide_eq_true c14
     clear c14
     obtain ⟨c15, H⟩ := zN H
     have c15b0 : decide (x19_1 < ((l0.drop 1).length : Int)) = true := decide_eq_true c15
     (try (have c15bz := c15b0; rw [List.length_drop] at c15bz))
     clear c15
     have HC16 := zA H
     clear H
     have p539 : 0 ≤ (x19_1 : Int) := of_decide_eq_true zq7
     have q539 : x19_1 < ((l0.drop 1).length : Int) := of_decide_eq_true zq7
     obtain ⟨ad539, e539, hx539_0⟩ := Kd.at_int HR538.out x19_1 p539 q539
     cases e539
     replace hx539_0 := (HB.out.cell (World.block_lt_of_cell? w _ hx539_0)).trans hx539_0
     replace p539 := eq_true p539
     replace q539 := eq_true q539
     (try (have qz539 := q539; rw [List.length_drop] at qz539))
     go_upto_region 7 with (fail)
     have H := HC16.out
     clear HC16
     have HC17 := zA H
     clear H
     go_upto_region 8 with (fail)
     have H := HC17.out
     clear HC17
     have H' := zA H
     clear H
     go_wp2
     go_roundg k1
     case measure => have := HK1.out; omega
     case rel => exact ⟨(Go.bits .or .i64 (wrap64 (x4_1 * 256)) (wrap64 (rd (l0.drop 1) x19_1))), (wrap64 (x19_1 + 1)), zq10, zq10, H', ⟨zq148⟩, ⟨zq0⟩⟩
    ·rw [if_neg c12] at H
     have c12b0 : decide (x19_1 < ((l0.drop 1).length : Int)) = false := decide_eq_false c12
     (try (have c12bz := c12b0; rw [List.length_drop] at c12bz))
     clear c12
     have HC18 := zA H
     clear H
     go_upto_region 9 with (fail)
     have H := HC18.out
     clear HC18
     obtain ⟨t540, A19, H⟩ := zB H
     try dsimp only at H
     by_cases c20 : (t540.length : Int) = (l0.length : Int)
     ·rw [if_pos c20] at H
      have c20b0 : ((t540.length : Int) == (l0.length : Int)) = true := beq_iff_eq.mpr c20
      have c20b1 : ((t540.length : Int) != (l0.length : Int)) = false := bne_eq_false_iff_eq.mpr c20
      have c20b2 : (t540.length == l0.length) = true := by first | simpa using c20 | (simp at c20 ⊢; omega)
      clear c20
      have HC21 := zA H
      clear H
      go_upto_region 11 with (first | ((with_reducible refine gate_callee (f := 156) rfl ?_); refine goesL_ (some 30) rfl rfl Try.func156 (by kernel_rfl) rfl #[.int .i64 x4_1] rfl zq1 ?_; (with_reducible refine (impl_PutInt.calls k1 x4_1 t540 _ A19.out).mono ?_); rintro e w22 ⟨v541, rfl, ho0, hb⟩; refine ⟨_, rfl, ?_⟩; have HO542 := zA (Kd.R_lower ho0 (below_size zq0)); replace HB := zA (below_step zq0 hb); clear hb ho0; obtain ⟨Ao23, co23, eo23⟩ := Kd.R_slice HO542.out; subst eo23))
      (try simp only [Act.put, List.setIfInBounds_toArray, List.set_cons_zero, List.set_cons_succ])
      have H := HC21.out
      clear HC21
      simp only [Option.some.injEq, Prod.mk.injEq] at H
      obtain ⟨rfl, rfl⟩ := H
      go_wp2
      go_ret2
      exact ⟨zq2, zq0⟩
     ·rw [if_neg c20] at H
      have c20b0 : ((t540.length : Int) == (l0.length : Int)) = false := beq_eq_false_iff_ne.mpr c20
      have c20b1 : ((t540.length : Int) != (l0.length : Int)) = true := bne_iff_ne.mpr c20
      have c20b2 : (t540.length == l0.length) = false := by first | simpa using c20 | (simp at c20 ⊢; omega)
      have HC24 := zA H
      clear H
      go_upto_region 10 with (first | ((with_reducible refine gate_callee (f := 156) rfl ?_); refine goesL_ (some 30) rfl rfl Try.func156 (by kernel_rfl) rfl #[.int .i64 x4_1] rfl zq1 ?_; (with_reducible refine (impl_PutInt.calls k1 x4_1 t540 _ A19.out).mono ?_); rintro e w25 ⟨v541, rfl, ho0, hb⟩; refine ⟨_, rfl, ?_⟩; have HO542 := zA (Kd.R_lower ho0 (below_size zq0)); replace HB := zA (below_step zq0 hb); clear hb ho0; obtain ⟨Ao26, co26, eo26⟩ := Kd.R_slice HO542.out; subst eo26))
      (try simp only [Act.put, List.setIfInBounds_toArray, List.set_cons_zero, List.set_cons_succ])
      have H := HC24.out
      clear HC24
      simp only [Option.some.injEq, Prod.mk.injEq] at H
      obtain ⟨rfl, rfl⟩ := H
      go_wp2
      go_ret2
      exact ⟨zq2, zq0⟩
 ·replace c5 := Bool.eq_false_iff.mpr c5
  subst c5
  rw [if_neg zF] at H
  have HC27 := zA H
  clear H
  go_upto_region 2 with (first | ((with_reducible refine gate_callee (f := 122) rfl ?_); refine goesL_ (some 9) rfl rfl Try.func122 (by kernel_rfl) rfl #[.int .i64 (l0.length : Int), .int .i64 1, .int .i64 4] rfl zq1 ?_; (with_reducible refine (impl_in.calls (l0.length : Int) 1 4 false _ A4.out).mono ?_); rintro e w' ⟨rfl, ⟨nd, rfl⟩⟩; refine ⟨_, rfl, ?_⟩))
  (try simp only [Act.put, List.setIfInBounds_toArray, List.set_cons_zero, List.set_cons_succ])
  have H := HC27.out
  clear HC27
  simp only [Option.some.injEq, Prod.mk.injEq] at H
  obtain ⟨rfl, rfl⟩ := H
  go_wp2
  go_ret2
  exact ⟨zq2, zq0⟩

/-! ### impl_GetOid: function 171 -/
def impl_GetOid.l0 : Nat → List Int → List Int → Int → List Int → Int → Int → Option (List Int × Bool)
 | 0, _, _, _, _, _, _ => none
 | k + 1, x0, x4, x5, x9, x10, x11 => if x11 < x10 then (if 0 ≤ x11 then (if x11 < (x9.length : Int) then (if x11 ≥ 40 then (some (([] : List Int), false)) else (if (rd x9 x11) < 128 then (if x4.length < 17592186044416 then (impl_GetOid.l0 k x0 (x4 ++ [Go.bits .or .i64 (wrap64 ((mn x5 1048576) * 128)) (wrap64 (Go.bits .and .u8 (rd x9 x11) 127))]) 0 x9 x10 (wrap64 (x11 + 1))) else (none)) else (impl_GetOid.l0 k x0 x4 (Go.bits .or .i64 (wrap64 ((mn x5 1048576) * 128)) (wrap64 (Go.bits .and .u8 (rd x9 x11) 127))) x9 x10 (wrap64 (x11 + 1))))) else (none)) else (none)) else ((impl_PutOid.f k x4).bind fun t543 => (if (t543.length : Int) = 0 then (some (([] : List Int), false)) else (if (strOfNums t543).toList = (strOfNums x0).toList then (some (x4, true)) else (some (([] : List Int), false)))))
def impl_GetOid.f (k : Nat) (l0 : List Int) : Option (List Int × Bool) := impl_GetOid.l0 k l0 ([] : List Int) 0 l0 (l0.length : Int) 0
theorem impl_GetOid.mono_l : ∀ k, (∀ y0 y1 y2 y3 y4 y5, LeO (impl_GetOid.l0 k y0 y1 y2 y3 y4 y5) (impl_GetOid.l0 (k + 1) y0 y1 y2 y3 y4 y5))
 | 0 => fun _ _ _ _ _ _ r h => by simp [impl_GetOid.l0] at h
 | k + 1 => by
  have ih0 := impl_GetOid.mono_l k
  ·intro y0 y1 y2 y3 y4 y5
   unfold impl_GetOid.l0
   have m0_ := @impl_PutOid.mono
   exact zR
theorem impl_GetOid.mono : ∀ a0 k, LeO (impl_GetOid.f k a0) (impl_GetOid.f (k + 1) a0) := by
 intro a0 k
 have ih0 := impl_GetOid.mono_l k
 unfold impl_GetOid.f
 have m0_ := @impl_PutOid.mono
 exact zR
set_option maxHeartbeats 8000000 in
set_option maxRecDepth 100000 in
theorem impl_GetOid.calls (k : Nat) (A0 : Option Addr) (c0 : Nat) (l0 : List Int) (r1 : List Int) (r2 : Bool) (w : World) (hr0 : Kd.C (Kd.int .u8) w A0 l0.length l0) (hc0 : l0.length ≤ c0) (h : impl_GetOid.f k l0 = some (r1, r2)) :
  Calls Try.prog 171 #[.slice A0 l0.length c0] w fun e w' => ∃ v0_ : Value, e = .returned (.tuple #[v0_, .bool r2]) ∧ Kd.R (Kd.int .i64) 3 w' w.heap.size (fun _ => True) v0_ r1 ∧ Below w.heap.size w w' := by
 have HR0 := zA hr0
 have HC0 := zA hc0
 clear hr0 hc0
 have HB := zA (Below.refl w.heap.size w)
 unfold impl_GetOid.f at h
 have H := h
 clear h
 have HC2 := zA H
 clear H
 go_enter Try.func171, Try.ntmps171
 go_upto_region 0 with (fail)
 have H := HC2.out
 clear HC2
 have HC3 := zA H
 clear H
 go_upto_region 1 with (fail)
 have H := HC3.out
 clear HC3
 have HC4 := zA H
 clear H
 go_upto_region 2 with (fail)
 have H := HC4.out
 clear HC4
 have HC5 := zA H
 clear H
 go_upto_region 3 with (fail)
 have H := HC5.out
 clear HC5
 have H' := zA H
 clear H
 go_wp2
 go_loopg [4, 5, 11] k (fun kq v4 v5 v11 w' => ∃ (x4_1 : List Int) (x5_1 : Int) (x11_1 : Int), v5 = .int .i64 x5_1 ∧ v11 = .int .i64 x11_1 ∧ Aside0 (impl_GetOid.l0 kq l0 x4_1 x5_1 l0 (l0.length : Int) x11_1 = some (r1, r2)) ∧ Aside0 (kq ≤ k) ∧ Aside0 (Kd.R (Kd.int .i64) 3 w' w.heap.size (fun _ => True) v4 x4_1) ∧ Aside0 (Below w.heap.size w w'))
 case atStart => exact ⟨(([] : List Int)), (0), (0), zq10, zq10, H', ⟨Nat.le_refl _⟩, ⟨zq6⟩, ⟨zq0⟩⟩
 case round =>
  clear H'
  try clear c1
  try clear p2
  obtain ⟨x4_1, x5_1, x11_1, rfl, rfl, HA, HK1, HO_4, HB⟩ := hrel
  cases gk with
  | zero => exact absurd HA.out (by simp [impl_GetOid.l0])
  | succ k1 =>
   have H := HA.out
   clear HA
   simp only [impl_GetOid.l0] at H
   have HC6 := zA H
   clear H
   go_upto_region 4 with (fail)
   have H := HC6.out
   clear HC6
   by_cases c7 : x11_1 < (l0.length : Int)
   ·rw [if_pos c7] at H
    have c7b0 : decide (x11_1 < (l0.length : Int)) = true := decide_eq_true c7
    clear c7
    have HC8 := zA H
    clear H
    go_upto_region 5 with (fail)
    have H := HC8.out
    clear HC8
    obtain ⟨c9, H⟩ := zN H
    have c9b0 : decide (0 ≤ x11_1) = true := decide_eq_true c9
    clear c9
    obtain ⟨c10, H⟩ := zN H
    have c10b0 : decide (x11_1 < (l0.length : Int)) = true := decide_eq_true c10
    clear c10
    have HC11 := zA H
    clear H
    have p546 : 0 ≤ (x11_1 : Int) := of_decide_eq_true zq7
    have q546 : x11_1 < (l0.length : Int) := of_decide_eq_true zq7
    obtain ⟨ad546, e546, hx546_0⟩ := Kd.at_int HR0.out x11_1 p546 q546
    cases e546
    replace hx546_0 := (HB.out.cell (World.block_lt_of_cell? w _ hx546_0)).trans hx546_0
    replace p546 := eq_true p546
    replace q546 := eq_true q546
    go_upto_region 6 with (fail)
    have H := HC11.out
    clear HC11
    by_cases c12 : x11_1 ≥ 40
    ·rw [if_pos c12] at H
     have c12b0 : decide (40 ≤ x11_1) = true := decide_eq_true c12
     clear c12
     have HC13 := zA H
     clear H
     go_upto_region 7 with (fail)
     have H := HC13.out
     clear HC13
     simp only [Option.some.injEq, Prod.mk.injEq] at H
     obtain ⟨rfl, rfl⟩ := H
     go_wp2
     go_ret2
     exact ⟨_, zq2, zq6, zq0⟩
    ·rw [if_neg c12] at H
     have c12b0 : decide (40 ≤ x11_1) = false := decide_eq_false c12
     clear c12
     have HC14 := zA H
     clear H
     go_upto_region 8 with (fail)
     have H := HC14.out
     clear HC14
     obtain ⟨ji15, hji15⟩ : ∃ j_ : Int, (mn x5_1 1048576) = j_ := ⟨_, rfl⟩
     replace H : (if (rd l0 x11_1) < 128 then (if x4_1.length < 17592186044416 then (impl_GetOid.l0 k1 l0 (x4_1 ++ [Go.bits .or .i64 (wrap64 ((ji15) * 128)) (wrap64 (Go.bits .and .u8 (rd l0 x11_1) 127))]) 0 l0 (l0.length : Int) (wrap64 (x11_1 + 1))) else (none)) else (impl_GetOid.l0 k1 l0 x4_1 (Go.bits .or .i64 (wrap64 ((ji15) * 128)) (wrap64 (Go.bits .and .u8 (rd l0 x11_1) 127))) l0 (l0.length : Int) (wrap64 (x11_1 + 1)))) = some (r1, r2) := by first | (rw [hji15] at H; exact H) | (simp only [hji15] at H ⊢; exact H)
     have hji15_ : (if 1048576 < x5_1 then 1048576 else x5_1) = ji15 := hji15
     have HC16 := zA H
     clear H
     go_upto_region 9 with (fail)
     have H := HC16.out
     clear HC16
     by_cases c17 : (rd l0 x11_1) < 128
     ·rw [if_pos c17] at H
      have c17b0 : decide ((rd l0 x11_1) < 128) = true := decide_eq_true c17
      clear c17
      have HC18 := zA H
      clear H
      go_upto_region 10 with (fail)
      have H := HC18.out
      clear HC18
      obtain ⟨c19, H⟩ := zN H
      have LMc19 := zA c19
      clear c19
      obtain ⟨y547, hy547⟩ : ∃ y_ : List Int, y_ = (x4_1 ++ [Go.bits .or .i64 (wrap64 ((ji15) * 128)) (wrap64 (Go.bits .and .u8 (rd l0 x11_1) 127))]) := ⟨_, rfl⟩
      rw [← hy547] at H
      have Ny547 := zA hy547
      clear hy547
      have HC20 := zA H
      clear H
      go_upto_region 11 with (first | ((with_reducible refine gate_builtin (b := .append) (xs := #[.tmp 27, .tmp 29]) rfl ?_); at_builtin; refine Kd.R_append (Kd.int .i64) (w0 := w) w.heap.size rfl (.tmp 27) (.tmp 29) 71 3 (.int .i64 0) 8 rfl Try.underlying71 info3 rfl zq39 zq144 u4 x4_1 (Go.bits .or .i64 (wrap64 ((ji15) * 128)) (wrap64 (Go.bits .and .u8 (rd l0 x11_1) 127))) [.int .i64 (Go.bits .or .i64 (wrap64 ((ji15) * 128)) (wrap64 (Go.bits .and .u8 (rd l0 x11_1) 127)))] (fun _ => True) (fun _ => False) rfl rfl ?aP (fun _ hk => hk.elim) ?aF ?aO ?aB ?aS ?aL ?_; (case aP => exact rfl); (case aB => exact zq0); (case aF => exact (fun _ _ => trivial)); (case aO => exact zq27); (case aS => exact (below_size zq0)); (case aL => have := LMc19.out; omega); intro v548 w21 ho hb hg hat; rw [← Ny547.out] at ho; replace HB := zA (hb); have HO549 := zA (ho); clear HO_4; clear ho hb hg hat))
      (try simp only [Act.put, List.setIfInBounds_toArray, List.set_cons_zero, List.set_cons_succ])
      have H := HC20.out
      clear HC20
      have HC22 := zA H
      clear H
      go_upto_region 12 with (fail)
      have H := HC22.out
      clear HC22
      have H' := zA H
      clear H
      go_wp2
      go_roundg k1
      case measure => have := HK1.out; omega
      case rel => exact ⟨(y547), (0), (wrap64 (x11_1 + 1)), zq10, zq10, H', ⟨zq148⟩, ⟨(by (with_reducible repeat (first | apply Kd.R_alloc | apply Kd.R_drewN | apply Kd.R_drew)); exact HO549.out)⟩, ⟨zq0⟩⟩
     ·rw [if_neg c17] at H
      have c17b0 : decide ((rd l0 x11_1) < 128) = false := decide_eq_false c17
      clear c17
      have HC23 := zA H
      clear H
      go_upto_region 12 with (fail)
      have H := HC23.out
      clear HC23
      have H' := zA H
      clear H
      go_wp2
      go_roundg k1
      case measure => have := HK1.out; omega
      case rel => exact ⟨(x4_1), (Go.bits .or .i64 (wrap64 ((ji15) * 128)) (wrap64 (Go.bits .and .u8 (rd l0 x11_1) 127))), (wrap64 (x11_1 + 1)), (by first | rfl | (simp; done) | (simp only [← hji15] <;> (first | rfl | simp)) | (simp [*]; done)), zq10, H', ⟨zq148⟩, ⟨zq27⟩, ⟨zq0⟩⟩
   ·rw [if_neg c7] at H
    have c7b0 : decide (x11_1 < (l0.length : Int)) = false := decide_eq_false c7
    clear c7
    have HC24 := zA H
    clear H
    go_upto_region 13 with (fail)
    have H := HC24.out
    clear HC24
    obtain ⟨t543, A25, H⟩ := zB H
    try dsimp only at H
    have HC26 := zA H
    clear H
    obtain ⟨Ao27, co27, eo27⟩ := Kd.R_slice HO_4.out
    subst eo27
    go_upto_region 14 with (first | ((with_reducible refine gate_callee (f := 108) rfl ?_); refine goesL_ (some 33) rfl rfl Try.func108 (by kernel_rfl) rfl #[.slice Ao27 x4_1.length co27] rfl zq1 ?_; (with_reducible refine (impl_PutOid.calls k1 _ _ x4_1 t543 _ ?side1 ?side2 A25.out).mono ?_); (case side1 => repeat (first | exact (Kd.R_reads' HO_4.out).2.2 | (with_reducible refine Kd.C_alloc ?_ _) | (with_reducible refine Kd.C_drewN ?_ _) | (with_reducible refine Kd.C_drew ?_))); (case side2 => exact (Kd.R_reads' HO_4.out).2.1); rintro e w28 ⟨v544, rfl, ho0, hb⟩; refine ⟨_, rfl, ?_⟩; replace HO_4 := zA (Kd.R_below zq27 hb); have HO545 := zA (Kd.R_lower ho0 (below_size zq0)); replace HB := zA (below_step zq0 hb); clear hb ho0))
    (try simp only [Act.put, List.setIfInBounds_toArray, List.set_cons_zero, List.set_cons_succ])
    have H := HC26.out
    clear HC26
    by_cases c29 : (t543.length : Int) = 0
    ·rw [if_pos c29] at H
     have c29b0 : ((t543.length : Int) == 0) = true := beq_iff_eq.mpr c29
     have c29b1 : ((t543.length : Int) != 0) = false := bne_eq_false_iff_eq.mpr c29
     clear c29
     have HC30 := zA H
     clear H
     obtain ⟨Ao31, co31, eo31⟩ := Kd.R_slice HO545.out
     subst eo31
     go_upto_region 15 with (fail)
     have H := HC30.out
     clear HC30
     simp only [Option.some.injEq, Prod.mk.injEq] at H
     obtain ⟨rfl, rfl⟩ := H
     go_wp2
     go_ret2
     exact ⟨_, zq2, zq6, zq0⟩
    ·rw [if_neg c29] at H
     have c29b0 : ((t543.length : Int) == 0) = false := beq_eq_false_iff_ne.mpr c29
     have c29b1 : ((t543.length : Int) != 0) = true := bne_iff_ne.mpr c29
     have c29b2 : ¬ (t543 = []) := fun h_ => c29 (by rw [h_]; rfl)
     by_cases c32 : (strOfNums t543).toList = (strOfNums l0).toList
     ·rw [if_pos c32] at H
      have c32b0 : ((strOfNums t543).toList == (strOfNums l0).toList) = true := beq_iff_eq.mpr c32
      have c32b1 : ((strOfNums t543).toList != (strOfNums l0).toList) = false := bne_eq_false_iff_eq.mpr c32
      clear c32
      have HC33 := zA H
      clear H
      obtain ⟨Ao34, co34, eo34⟩ := Kd.R_slice HO545.out
      subst eo34
      have hcv35 := own_string (P := Try.prog) Try.underlying22 Try.underlying5 Try.underlying9 (Kd.own_of_R HO545.out)
      have hcv36 := Kd.C_string (P := Try.prog) (A := A0) (c := c0) Try.underlying22 Try.underlying5 Try.underlying9 (Kd.C_below HR0.out HB.out)
      go_upto_region 16 with (fail)
      have H := HC33.out
      clear HC33
      simp only [Option.some.injEq, Prod.mk.injEq] at H
      obtain ⟨rfl, rfl⟩ := H
      go_wp2
      go_ret2
      exact ⟨_, zq2, zq27, zq0⟩
     ·rw [if_neg c32] at H
      have c32b0 : ((strOfNums t543).toList == (strOfNums l0).toList) = false := beq_eq_false_iff_ne.mpr c32
      have c32b1 : ((strOfNums t543).toList != (strOfNums l0).toList) = true := bne_iff_ne.mpr c32
      have HC37 := zA H
      clear H
      obtain ⟨Ao38, co38, eo38⟩ := Kd.R_slice HO545.out
      subst eo38
      have hcv39 := own_string (P := Try.prog) Try.underlying22 Try.underlying5 Try.underlying9 (Kd.own_of_R HO545.out)
      have hcv40 := Kd.C_string (P := Try.prog) (A := A0) (c := c0) Try.underlying22 Try.underlying5 Try.underlying9 (Kd.C_below HR0.out HB.out)
      go_upto_region 15 with (fail)
      have H := HC37.out
      clear HC37
      simp only [Option.some.injEq, Prod.mk.injEq] at H
      obtain ⟨rfl, rfl⟩ := H
      go_wp2
      go_ret2
      exact ⟨_, zq2, zq6, zq0⟩

end Go.Proofs.Ytkcgghgkmgbphaa.PFnVals
