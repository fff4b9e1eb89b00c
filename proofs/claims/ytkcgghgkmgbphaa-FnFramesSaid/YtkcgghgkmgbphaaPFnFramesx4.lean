-- WRITTEN BY a turned copy of the kit's printer (wip/patch_print.py), for this claim
import Derived.Test.YtkcgghgkmgbphaaPFnFramesx0
import Derived.Test.YtkcgghgkmgbphaaPFnFramesx1
import Derived.Test.YtkcgghgkmgbphaaPFnFramesx3
namespace Go.Proofs.Ytkcgghgkmgbphaa.PFnFrames
open Go.RowKit Go.Proofs.YtkcgghgkmgbphaaW.PrintWords Go.Proofs.YtkcgghgkmgbphaaW.PrintLast Go.Proofs.YtkcgghgkmgbphaaW.PrintMore
attribute [local go_sem] max2_int min2_int max_two min_two max_three min_three max_four min_four   -- for this text's walks alone
set_option linter.unusedVariables false
set_option linter.unusedSimpArgs false

/-! ### spec_GetInt: function 172 -/
mutual
def spec_GetInt.j0 : Nat → List Int → Int → Option (Int × Bool)
 | 0, _, _ => none
 | k + 1, x0, x4 => spec_GetInt.l0 k x0 x4 1
def spec_GetInt.l0 : Nat → List Int → Int → Int → Option (Int × Bool)
 | 0, _, _, _ => none
 | k + 1, x0, x4, x5 => if x5 < (x0.length : Int) then (if 0 ≤ x5 then (spec_GetInt.l0 k x0 (Go.bits .or .i64 (wrap64 (x4 * 256)) (wrap64 (rd x0 x5))) (wrap64 (x5 + 1))) else (none)) else ((spec_PutInt.f k x4).bind fun t190 => (if (t190.length : Int) = (x0.length : Int) then (some (x4, true)) else (some (0, false))))
end
def spec_GetInt.f (k : Nat) (l0 : List Int) : Option (Int × Bool) := (spec_l1In.f (l0.length : Int) 1 4).bind fun t187 => (if t187 = true then (if 0 < (l0.length : Int) then (if (wrap64 (rd l0 0)) > 127 then (spec_GetInt.j0 k l0 (wrap64 ((wrap64 (rd l0 0)) - 256))) else (spec_GetInt.j0 k l0 (wrap64 (rd l0 0)))) else (none)) else (some (0, false)))
theorem spec_GetInt.mono_l : ∀ k, (∀ y0 y1, LeO (spec_GetInt.j0 k y0 y1) (spec_GetInt.j0 (k + 1) y0 y1)) ∧ (∀ y0 y1 y2, LeO (spec_GetInt.l0 k y0 y1 y2) (spec_GetInt.l0 (k + 1) y0 y1 y2))
 | 0 => ⟨fun _ _ r h => by simp [spec_GetInt.j0] at h, fun _ _ _ r h => by simp [spec_GetInt.l0] at h⟩
 | k + 1 => by
  obtain ⟨ih0, ih1⟩ := spec_GetInt.mono_l k
  refine ⟨?_, ?_⟩
  ·intro y0 y1
   unfold spec_GetInt.j0
   have m0_ := @spec_PutInt.mono
   exact zR
  ·intro y0 y1 y2
   unfold spec_GetInt.l0
   have m0_ := @spec_PutInt.mono
   exact zR
theorem spec_GetInt.mono : ∀ a0 k, LeO (spec_GetInt.f k a0) (spec_GetInt.f (k + 1) a0) := by
 intro a0 k
 obtain ⟨ih0, ih1⟩ := spec_GetInt.mono_l k
 unfold spec_GetInt.f
 have m0_ := @spec_PutInt.mono
 exact zR
set_option maxHeartbeats 8000000 in
set_option maxRecDepth 100000 in
theorem spec_GetInt.calls (k : Nat) (A0 : Option Addr) (c0 : Nat) (l0 : List Int) (r1 : Int) (r2 : Bool) (w : World) (hr0 : Kd.C (Kd.int .u8) w A0 l0.length l0) (hc0 : l0.length ≤ c0) (h : spec_GetInt.f k l0 = some (r1, r2)) :
  Calls Try.prog 172 #[.slice A0 l0.length c0] w fun e w' => e = .returned (.tuple #[.int .i64 r1, .bool r2]) ∧ Below w.heap.size w w' := by
 have HR0 := zA hr0
 have HC0 := zA hc0
 clear hr0 hc0
 have HB := zA (Below.refl w.heap.size w)
 unfold spec_GetInt.f at h
 have H := h
 clear h
 have HC2 := zA H
 clear H
 go_enter Try.func172, Try.ntmps172
 go_upto_region 0 with (fail)
 have H := HC2.out
 clear HC2
 have HC3 := zA H
 clear H
 go_upto_region 1 with (fail)
 have H := HC3.out
 clear HC3
 obtain ⟨t187, A4, H⟩ := zB H
 try dsimp only at H
 by_cases c5 : t187 = true
 ·subst c5
  rw [if_pos rfl] at H
  have HC6 := zA H
  clear H
  go_upto_region 3 with (first | ((with_reducible refine gate_callee (f := 150) rfl ?_); refine goesL_ (some 8) rfl rfl Try.func150 (by kernel_rfl) rfl #[.int .i64 (l0.length : Int), .int .i64 1, .int .i64 4] rfl zq1 ?_; (with_reducible refine (spec_l1In.calls (l0.length : Int) 1 4 true _ A4.out).mono ?_); rintro e w' ⟨rfl, ⟨nd, rfl⟩⟩; refine ⟨_, rfl, ?_⟩))
  (try simp only [Act.put, List.setIfInBounds_toArray, List.set_cons_zero, List.set_cons_succ])
  have H := HC6.out
  clear HC6
  obtain ⟨c7, H⟩ := zN H
  have c7b0 : decide (0 < (l0.length : Int)) = true := decide_eq_true c7
  have c7b1 : decide (0 < l0.length) = true := decide_eq_true zq177
  clear c7
  have HC8 := zA H
  clear H
  have p188 : 0 ≤ (0 : Int) := zq177
  have q188 : 0 < (l0.length : Int) := of_decide_eq_true zq17
  obtain ⟨ad188, e188, hx188_0⟩ := Kd.at_int HR0.out 0 p188 q188
  cases e188
  have qi188 : (0 < l0.length) = True := eq_true zq177
  (try rw [show ((0 : Int)).toNat = 0 from rfl] at hx188_0)
  (try rw [Addr.add_zero'] at hx188_0)
  replace hx188_0 := (HB.out.cell (World.block_lt_of_cell? w _ hx188_0)).trans hx188_0
  replace p188 := eq_true p188
  replace q188 := eq_true q188
  go_upto_region 4 with (fail)
  have H := HC8.out
  clear HC8
  have HC9 := zA H
  clear H
  go_upto_if 15 with (fail)
  go_cut [4] (fun v4 wc => ∃ (kq : Nat) (x4_8 : Int), v4 = .int .i64 x4_8 ∧ Aside0 (spec_GetInt.j0 kq l0 x4_8 = some (r1, r2)) ∧ Aside0 (kq ≤ k) ∧ Aside0 (Below w.heap.size w wc))
  case first =>
   have H := HC9.out
   clear HC9
   by_cases c10 : (wrap64 (rd l0 0)) > 127
   ·rw [if_pos c10] at H
    have c10b0 : decide (127 < (wrap64 (rd l0 0))) = true := decide_eq_true c10
    clear c10
    (first | rw [c10b0] | (simp only [i64_w, i32_w]; rw [c10b0]) | skip)
    have HC11 := zA H
    clear H
    go_upto_region 5 with (fail)
    have H := HC11.out
    clear HC11
    have H' := zA H
    clear H
    go_wp2
    go_meet
    case rel => exact ⟨_, (wrap64 ((wrap64 (rd l0 0)) - 256)), zq25, H', ⟨zq97⟩, ⟨zq0⟩⟩
   ·rw [if_neg c10] at H
    have c10b0 : decide (127 < (wrap64 (rd l0 0))) = false := decide_eq_false c10
    clear c10
    (first | rw [c10b0] | (simp only [i64_w, i32_w]; rw [c10b0]) | skip)
    have H' := zA H
    clear H
    go_wp2
    go_meet
    case rel => exact ⟨_, (wrap64 (rd l0 0)), zq25, H', ⟨zq97⟩, ⟨zq0⟩⟩
  case rest =>
   clear HC9
   try clear c1
   try clear p1
   try clear q1
   try clear hx1
   try clear qi1
   try clear p2
   try clear c5
   try clear p6
   try clear c7
   try clear c7b0
   try clear c7b1
   try clear c10
   try clear c10b0
   try clear hx188_0
   try clear p188
   try clear q188
   obtain ⟨kq, x4_8, rfl, HA, HJ8, HB⟩ := hcut
   cases kq with
   | zero => exact absurd HA.out (by simp [spec_GetInt.j0])
   | succ kj8 =>
    have H := HA.out
    clear HA
    simp only [spec_GetInt.j0] at H
    have HC12 := zA H
    clear H
    go_upto_region 6 with (fail)
    have H := HC12.out
    clear HC12
    have H' := zA H
    clear H
    go_wp2
    go_loopg [4, 5] kj8 (fun kq v4 v5 w' => ∃ (x4_2 : Int) (x5_2 : Int), v4 = .int .i64 x4_2 ∧ v5 = .int .i64 x5_2 ∧ Aside0 (spec_GetInt.l0 kq l0 x4_2 x5_2 = some (r1, r2)) ∧ Aside0 (kq ≤ kj8) ∧ Aside0 (Below w.heap.size w w'))
    case atStart => exact ⟨(x4_8), (1), zq25, zq25, H', ⟨Nat.le_refl _⟩, ⟨zq0⟩⟩
    case round =>
     clear H'
     try clear c1
     try clear p1
     try clear q1
     try clear hx1
     try clear qi1
     try clear p2
     try clear c5
     try clear p6
     try clear c7
     try clear c7b0
     try clear c7b1
     try clear c10
     try clear c10b0
     try clear hx188_0
     try clear p1
     try clear p188
     try clear p2
     try clear p6
     try clear q1
     try clear q188
     obtain ⟨x4_2, x5_2, rfl, rfl, HA, HK2, HB⟩ := hrel
     cases gk with
     | zero => exact absurd HA.out (by simp [spec_GetInt.l0])
     | succ k2 =>
      have H := HA.out
      clear HA
      simp only [spec_GetInt.l0] at H
      have HC13 := zA H
      clear H
      go_upto_region 7 with (fail)
      have H := HC13.out
      clear HC13
      by_cases c14 : x5_2 < (l0.length : Int)
      ·rw [if_pos c14] at H
       have c14b0 : decide (x5_2 < (l0.length : Int)) = true := decide_eq_true c14
       clear c14
       have HC15 := zA H
       clear H
       go_upto_region 9 with (fail)
       have H := HC15.out
       clear HC15
       obtain ⟨c16, H⟩ := zN H
       have c16b0 : decide (0 ≤ x5_2) = true := decide_eq_true c16
       clear c16
       have HC17 := zA H
       clear H
       have p189 : 0 ≤ (x5_2 : Int) := of_decide_eq_true zq17
       have q189 : x5_2 < (l0.length : Int) := of_decide_eq_true zq17
       obtain ⟨ad189, e189, hx189_0⟩ := Kd.at_int HR0.out x5_2 p189 q189
       obtain rfl : ad188 = ad189 := (by injection e189)
       replace hx189_0 := (HB.out.cell (World.block_lt_of_cell? w _ hx189_0)).trans hx189_0
       replace p189 := eq_true p189
       replace q189 := eq_true q189
       go_upto_region 8 with (fail)
       have H := HC17.out
       clear HC17
       have H' := zA H
       clear H
       go_wp2
       go_roundg k2
       case measure => have := HJ8.out; have := HK2.out; omega
       case rel => exact ⟨(Go.bits .or .i64 (wrap64 (x4_2 * 256)) (wrap64 (rd l0 x5_2))), (wrap64 (x5_2 + 1)), zq25, zq25, H', ⟨(by have := HJ8.out; have := HK2.out; omega)⟩, ⟨zq0⟩⟩
      ·rw [if_neg c14] at H
       have c14b0 : decide (x5_2 < (l0.length : Int)) = false := decide_eq_false c14
       clear c14
       have HC18 := zA H
       clear H
       go_upto_region 10 with (fail)
       have H := HC18.out
       clear HC18
       obtain ⟨t190, A19, H⟩ := zB H
       try dsimp only at H
       by_cases c20 : (t190.length : Int) = (l0.length : Int)
       ·rw [if_pos c20] at H
        have c20b0 : ((t190.length : Int) == (l0.length : Int)) = true := beq_iff_eq.mpr c20
        have c20b1 : ((t190.length : Int) != (l0.length : Int)) = false := bne_eq_false_iff_eq.mpr c20
        have c20b2 : (t190.length == l0.length) = true := by first | simpa using c20 | (simp at c20 ⊢; omega)
        clear c20
        have HC21 := zA H
        clear H
        go_upto_region 12 with (first | ((with_reducible refine gate_callee (f := 152) rfl ?_); refine goesL_ (some 33) rfl rfl Try.func152 (by kernel_rfl) rfl #[.int .i64 x4_2] rfl zq1 ?_; (with_reducible refine (spec_PutInt.calls k2 x4_2 t190 _ A19.out).mono ?_); rintro e w22 ⟨v191, rfl, ho0, hb⟩; refine ⟨_, rfl, ?_⟩; have HO192 := zA (Kd.R_lower ho0 (below_size zq0)); replace HB := zA (below_step zq0 hb); clear hb ho0; obtain ⟨Ao23, co23, eo23⟩ := Kd.R_slice HO192.out; subst eo23))
        (try simp only [Act.put, List.setIfInBounds_toArray, List.set_cons_zero, List.set_cons_succ])
        have H := HC21.out
        clear HC21
        simp only [Option.some.injEq, Prod.mk.injEq] at H
        obtain ⟨rfl, rfl⟩ := H
        go_wp2
        go_ret2
        exact ⟨zq5, zq0⟩
       ·rw [if_neg c20] at H
        have c20b0 : ((t190.length : Int) == (l0.length : Int)) = false := beq_eq_false_iff_ne.mpr c20
        have c20b1 : ((t190.length : Int) != (l0.length : Int)) = true := bne_iff_ne.mpr c20
        have c20b2 : (t190.length == l0.length) = false := by first | simpa using c20 | (simp at c20 ⊢; omega)
        have HC24 := zA H
        clear H
        go_upto_region 11 with (first | ((with_reducible refine gate_callee (f := 152) rfl ?_); refine goesL_ (some 33) rfl rfl Try.func152 (by kernel_rfl) rfl #[.int .i64 x4_2] rfl zq1 ?_; (with_reducible refine (spec_PutInt.calls k2 x4_2 t190 _ A19.out).mono ?_); rintro e w25 ⟨v191, rfl, ho0, hb⟩; refine ⟨_, rfl, ?_⟩; have HO192 := zA (Kd.R_lower ho0 (below_size zq0)); replace HB := zA (below_step zq0 hb); clear hb ho0; obtain ⟨Ao26, co26, eo26⟩ := Kd.R_slice HO192.out; subst eo26))
        (try simp only [Act.put, List.setIfInBounds_toArray, List.set_cons_zero, List.set_cons_succ])
        have H := HC24.out
        clear HC24
        simp only [Option.some.injEq, Prod.mk.injEq] at H
        obtain ⟨rfl, rfl⟩ := H
        go_wp2
        go_ret2
        exact ⟨zq5, zq0⟩
 ·replace c5 := Bool.eq_false_iff.mpr c5
  subst c5
  rw [if_neg zF] at H
  have HC27 := zA H
  clear H
  go_upto_region 2 with (first | ((with_reducible refine gate_callee (f := 150) rfl ?_); refine goesL_ (some 8) rfl rfl Try.func150 (by kernel_rfl) rfl #[.int .i64 (l0.length : Int), .int .i64 1, .int .i64 4] rfl zq1 ?_; (with_reducible refine (spec_l1In.calls (l0.length : Int) 1 4 false _ A4.out).mono ?_); rintro e w' ⟨rfl, ⟨nd, rfl⟩⟩; refine ⟨_, rfl, ?_⟩))
  (try simp only [Act.put, List.setIfInBounds_toArray, List.set_cons_zero, List.set_cons_succ])
  have H := HC27.out
  clear HC27
  simp only [Option.some.injEq, Prod.mk.injEq] at H
  obtain ⟨rfl, rfl⟩ := H
  go_wp2
  go_ret2
  exact ⟨zq5, zq0⟩

/-! ### spec_l6Num: function 138 -/
def spec_l6Num.f (k : Nat) (s0_0 : List Int) (s0_1 : Int) (s0_2 : Bool) (a1 : Int) : Option (Int × Int × Bool) := (spec_l4Part.f s0_0 s0_1 s0_2 a1).bind fun bt193 => ((spec_GetInt.f k bt193.1).bind fun bt198 => (if bt193.2.2 = true then (some (bt198.1, bt193.2.1, true)) else (some (bt198.1, bt193.2.1, !bt198.2))))
theorem spec_l6Num.mono : ∀ a0 a1 a2 a3 k, LeO (spec_l6Num.f k a0 a1 a2 a3) (spec_l6Num.f (k + 1) a0 a1 a2 a3) := by
 intro a0 a1 a2 a3 k
 unfold spec_l6Num.f
 have m0_ := @spec_GetInt.mono
 exact zR
set_option maxHeartbeats 8000000 in
set_option maxRecDepth 100000 in
theorem spec_l6Num.calls (k : Nat) (g : Nat) (s0_0 : List Int) (s0_1 : Int) (s0_2 : Bool) (a1 : Int) (r1 : Int) (r2 : Int) (r3 : Bool) (w0 w : World) (hI : IsS135 w0 w g s0_0 s0_1 s0_2) (hB : Below w0.heap.size w0 w) (h : spec_l6Num.f k s0_0 s0_1 s0_2 a1 = some (r1, r2, r3)) :
  Calls Try.prog 138 #[.pointer (some ⟨g, 0, none⟩), .int .i64 a1] w fun e w' => e = .returned (.int .i64 r1) ∧ IsS135 w0 w' g s0_0 r2 r3 ∧ Below w0.heap.size w0 w' ∧ KeepBut w w' g none := by
 have HI0 := zA hI
 have HK := zA (KeepBut.refl w g none)
 have HL := zA hB.size
 clear hI
 have HW0 := zA hB.size
 have HB := zA hB
 clear hB
 unfold spec_l6Num.f at h
 have H := h
 clear h
 have HC3 := zA H
 clear H
 go_enter Try.func138, Try.ntmps138
 go_upto_region 0 with (fail)
 have H := HC3.out
 clear HC3
 have HC4 := zA H
 clear H
 go_upto_region 1 with (fail)
 have H := HC4.out
 clear HC4
 obtain ⟨⟨t193, t196, t197⟩, A5, H⟩ := zB H
 try dsimp only at H
 obtain ⟨⟨t198, t199⟩, A6, H⟩ := zB H
 try dsimp only at H
 have HC7 := zA H
 clear H
 go_upto_region 2 with (first | ((with_reducible refine gate_callee (f := 119) rfl ?_); refine goesL_ (some 10) rfl rfl Try.func119 (by kernel_rfl) rfl #[.pointer (some ⟨g, 0, none⟩), .int .i64 a1] rfl zq1 ?_; (with_reducible refine (spec_l4Part.calls g s0_0 s0_1 s0_2 a1 t193 t196 t197 w0 _ ?side1 ?side2 A5.out).mono ?_); (case side1 => repeat (first | (with_reducible first | exact HI0.out | apply IsS135.alloc | apply IsS135.drewN | apply IsS135.drew | apply IsS135.set_1 | apply IsS135.set_2) | exact HI0.out)); (case side2 => repeat (first | (with_reducible first | exact HB.out | apply below_alloc | apply pw_below_drewN | apply below_drew1 | refine below_set ?_ (IsS135.ge HI0.out)) | exact HB.out)); rintro e w8 ⟨v194, rfl, ho0, hi, hb, hk⟩; refine ⟨_, rfl, ?_⟩; have HO195 := zA (Kd.R_lower ho0 (keep_size (w := w) (g := g) (row := none) zq3)); replace HK := zA (KeepBut.trans zq3 hk (.inl rfl)); replace HB := zA (hb); replace HI0 := zA (hi); clear hb hk hi ho0; obtain ⟨Ao9, co9, eo9⟩ := Kd.R_slice HO195.out; subst eo9) | ((with_reducible refine gate_callee (f := 172) rfl ?_); refine goesL_ (some 11) rfl rfl Try.func172 (by kernel_rfl) rfl #[.slice Ao9 t193.length co9] rfl zq1 ?_; (with_reducible refine (spec_GetInt.calls k _ _ t193 t198 t199 _ ?side1 ?side2 A6.out).mono ?_); (case side1 => repeat (first | exact (Kd.R_reads' HO195.out).2.2 | (with_reducible refine Kd.C_alloc ?_ _) | (with_reducible refine Kd.C_drewN ?_ _) | (with_reducible refine Kd.C_drew ?_))); (case side2 => exact (Kd.R_reads' HO195.out).2.1); rintro e w10 ⟨rfl, hb⟩; refine ⟨_, rfl, ?_⟩; replace HO195 := zA (Kd.R_below (by (with_reducible repeat (first | apply Kd.R_alloc | apply Kd.R_drewN | apply Kd.R_drew)); exact HO195.out) hb); replace HK := zA (KeepBut.trans zq3 (KeepBut.of_below hb g none) (.inl rfl)); replace HB := zA (below_step zq41 hb); replace HI0 := zA (IsS135.below zq62 hb); clear hb))
 (try simp only [Act.put, List.setIfInBounds_toArray, List.set_cons_zero, List.set_cons_succ])
 have H := HC7.out
 clear HC7
 by_cases c11 : t197 = true
 ·subst c11
  rw [if_pos rfl] at H
  have HC12 := zA H
  clear H
  obtain ⟨ASz13_0, cSz13_0, HGz13, hgz13, ⟨HSz13_0, HSKz13_0⟩⟩ := HI0.out
  have HSCz13_0 := zA HSKz13_0
  clear HSKz13_0
  have hcz13_0 := cellS135_0 HGz13
  have hcz13_1 := cellS135_1 HGz13
  have hcz13_2 := cellS135_2 HGz13
  have hfz13_1 := blk_frozen HGz13 1
  have hfz13_2 := blk_frozen HGz13 2
  clear HGz13 hgz13
  go_upto_region 3 with (fail)
  have H := HC12.out
  clear HC12
  simp only [Option.some.injEq, Prod.mk.injEq] at H
  obtain ⟨rfl, rfl, rfl⟩ := H
  go_wp2
  go_ret
  exact ⟨zq5, zq62, zq41, zq3⟩
 ·replace c11 := Bool.eq_false_iff.mpr c11
  subst c11
  rw [if_neg zF] at H
  have HC14 := zA H
  clear H
  obtain ⟨ASz15_0, cSz15_0, HGz15, hgz15, ⟨HSz15_0, HSKz15_0⟩⟩ := HI0.out
  have HSCz15_0 := zA HSKz15_0
  clear HSKz15_0
  have hcz15_0 := cellS135_0 HGz15
  have hcz15_1 := cellS135_1 HGz15
  have hcz15_2 := cellS135_2 HGz15
  have hfz15_1 := blk_frozen HGz15 1
  have hfz15_2 := blk_frozen HGz15 2
  clear HGz15 hgz15
  go_upto_region 3 with (fail)
  have H := HC14.out
  clear HC14
  simp only [Option.some.injEq, Prod.mk.injEq] at H
  obtain ⟨rfl, rfl, rfl⟩ := H
  go_wp2
  go_ret
  exact ⟨zq5, zq62, zq41, zq3⟩

end Go.Proofs.Ytkcgghgkmgbphaa.PFnFrames
