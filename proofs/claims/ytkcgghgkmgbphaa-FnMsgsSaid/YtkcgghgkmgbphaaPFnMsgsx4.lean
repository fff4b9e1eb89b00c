-- WRITTEN BY a turned copy of the kit's printer (wip/patch_print.py), for this claim
import Derived.Test.YtkcgghgkmgbphaaPFnMsgsx0
import Derived.Test.YtkcgghgkmgbphaaPFnMsgsx3
namespace Go.Proofs.Ytkcgghgkmgbphaa.PFnMsgs
open Go.RowKit Go.Proofs.YtkcgghgkmgbphaaW.PrintWords Go.Proofs.YtkcgghgkmgbphaaW.PrintLast Go.Proofs.YtkcgghgkmgbphaaW.PrintMore
attribute [local go_sem] max2_int min2_int max_two min_two max_three min_three max_four min_four   -- for this text's walks alone
set_option linter.unusedVariables false
set_option linter.unusedSimpArgs false
set_option maxHeartbeats 8000000
set_option maxRecDepth 100000

attribute [local go_sem] cell_setCell_m
/-! ### spec_ValOk: function 91 -/
def spec_ValOk.j0 : Nat → Int → Bool → Int → Int → ByteArray → List Int → Option (Bool)
 | 0, _, _, _, _, _, _ => none
 | k + 1, x4, x5, x121000, x121001, x121002, x121003 => if x5 = true then (if x121001 = 0 then (if x121002.toList = ([] : List UInt8) then (some ((x121003.length : Int) == 0)) else (some false)) else (some false)) else (if x4 = 2 then ((spec_l1Clip.f x121001).bind fun t121 => (if t121 = x121001 then (if x121002.toList = ([] : List UInt8) then (some ((x121003.length : Int) == 0)) else (some false)) else (some false))) else (if x4 = 4 then (if (x121002.size : Int) ≤ 20 then (if x121001 = 0 then (some ((x121003.length : Int) == 0)) else (some false)) else (some false)) else (if x4 = 6 then ((spec_OidOk.f k x121003).bind fun t122 => (if t122 = true then (if x121001 = 0 then (some (x121002.toList == ([] : List UInt8))) else (some false)) else (some false))) else (some false))))
def spec_ValOk.f (k : Nat) (a0_0 : Int) (a0_1 : Int) (a0_2 : ByteArray) (l0_3 : List Int) : Option (Bool) := if a0_0 = 5 then (spec_ValOk.j0 k a0_0 (a0_0 == 5) a0_0 a0_1 a0_2 l0_3) else (if a0_0 = 128 then (spec_ValOk.j0 k a0_0 (a0_0 == 128) a0_0 a0_1 a0_2 l0_3) else (spec_ValOk.j0 k a0_0 (a0_0 == 130) a0_0 a0_1 a0_2 l0_3))
theorem spec_ValOk.mono_l : ∀ k, (∀ y0 y1 y2 y3 y4 y5, LeO (spec_ValOk.j0 k y0 y1 y2 y3 y4 y5) (spec_ValOk.j0 (k + 1) y0 y1 y2 y3 y4 y5))
 | 0 => fun _ _ _ _ _ _ r h => by simp [spec_ValOk.j0] at h
 | k + 1 => by
  have ih0 := spec_ValOk.mono_l k
  ·intro y0 y1 y2 y3 y4 y5
   unfold spec_ValOk.j0
   have m0_ := @spec_OidOk.mono
   exact zR
theorem spec_ValOk.mono : ∀ a0 a1 a2 a3 k, LeO (spec_ValOk.f k a0 a1 a2 a3) (spec_ValOk.f (k + 1) a0 a1 a2 a3) := by
 intro a0 a1 a2 a3 k
 have ih0 := spec_ValOk.mono_l k
 unfold spec_ValOk.f
 have m0_ := @spec_OidOk.mono
 exact zR
theorem spec_ValOk.calls (k : Nat) (a0_0 : Int) (a0_1 : Int) (a0_2 : ByteArray) (A0_3 : Option Addr) (c0_3 : Nat) (l0_3 : List Int) (r : Bool) (w : World) (hr0_3 : Kd.C (Kd.int .i64) w A0_3 l0_3.length l0_3) (hc0_3 : l0_3.length ≤ c0_3) (h : spec_ValOk.f k a0_0 a0_1 a0_2 l0_3 = some r) :
  Calls Try.prog 91 #[.agg #[.int .i64 a0_0, .int .i64 a0_1, .string a0_2, .slice A0_3 l0_3.length c0_3]] w fun e w' => e = .returned (.bool r) ∧ Below w.heap.size w w' := by
 have hu76 := Try.underlying76
 have HR0_3 := zA hr0_3
 have HC0_3 := zA hc0_3
 clear hr0_3 hc0_3
 have HB := zA (Below.refl w.heap.size w)
 unfold spec_ValOk.f at h
 have H := zA h
 clear h
 go_enter Try.func91, Try.ntmps91
 go_upto_region 0 with fail
 go_upto_region 1 with (first | ((with_reducible refine gate_dst (N := 1) rfl ?_); (try (refine gate_guard zq94 ?_; dsimp only)); refine box_event ?hg (N := 1) ?hd (cs := #[.int .i64 a0_0, .int .i64 a0_1, .string a0_2, .slice A0_3 l0_3.length c0_3]) (t := 76) ?hr ?_; (case hd => rfl); (case hg => rfl); (case hr => exact zgs); intro gb120 hg w4 hbox hb; have BK120 := zA (hbox); have GW120 := zA ((zq5 : w.heap.size ≤ gb120)); have GE120 := zA ((zq5 : w.heap.size ≤ gb120)); replace HB := zA (below_step zq0 hb); clear hb hbox hg))
 (try simp only [zvs])
 have hz6 := zc4 BK120.out
 go_upto_region 2 with fail
 go_upto_if 5 with fail
 go_cut [5] (fun v5 wc => ∃ (kq : Nat) (x5_6 : Bool), v5 = .bool x5_6 ∧ Aside0 (spec_ValOk.j0 kq a0_0 x5_6 a0_0 a0_1 a0_2 l0_3 = some r) ∧ Aside0 (kq ≤ k) ∧ Aside0 (wc.heap[gb120]? = some (.cells #[.int .i64 a0_0, .int .i64 a0_1, .string a0_2, (.slice A0_3 l0_3.length c0_3)] 76 (0, 0))) ∧ Aside0 (Below w.heap.size w wc))
 case first =>
  replace H := zP H; rcases H with ⟨c8, H⟩ | ⟨c8, H⟩
  ·have c8b0 : (a0_0 == 5) = true := beq_iff_eq.mpr c8
   have c8b1 : (a0_0 != 5) = false := bne_eq_false_iff_eq.mpr c8
   clear c8
   (first | rw [c8b0] | (simp only [i64_w, i32_w]; rw [c8b0]) | skip)
   have H' := H; clear H
   go_wp2
   go_meet
   case rel => exact ⟨_, ((a0_0 == 5)), zq15, H', ⟨zq120⟩, ⟨(zbk BK120.out)⟩, ⟨zq0⟩⟩
  have c8b0 : (a0_0 == 5) = false := beq_eq_false_iff_ne.mpr c8
  have c8b1 : (a0_0 != 5) = true := bne_iff_ne.mpr c8
  (first | rw [c8b0] | (simp only [i64_w, i32_w]; rw [c8b0]) | skip)
  go_upto_region 3 with fail
  replace H := zP H; rcases H with ⟨c10, H⟩ | ⟨c10, H⟩
  ·have c10b0 : (a0_0 == 128) = true := beq_iff_eq.mpr c10
   have c10b1 : (a0_0 != 128) = false := bne_eq_false_iff_eq.mpr c10
   clear c10
   have H' := H; clear H
   go_wp2
   go_meet
   case rel => exact ⟨_, ((a0_0 == 128)), zq15, H', ⟨zq120⟩, ⟨(zbk BK120.out)⟩, ⟨zq0⟩⟩
  have c10b0 : (a0_0 == 128) = false := beq_eq_false_iff_ne.mpr c10
  have c10b1 : (a0_0 != 128) = true := bne_iff_ne.mpr c10
  go_upto_region 4 with fail
  have H' := H; clear H
  go_wp2
  go_meet
  case rel => exact ⟨_, ((a0_0 == 130)), zq15, H', ⟨zq120⟩, ⟨(zbk BK120.out)⟩, ⟨zq0⟩⟩
 case rest =>
  try clear c1
  try clear p2
  try clear c8
  try clear c8b0
  try clear c8b1
  try clear c9
  try clear c10
  try clear c10b0
  try clear c10b1
  try clear hz6
  obtain ⟨kq, x5_6, rfl, HA, HJ6, BK120, HB⟩ := hcut
  cases kq with
  | zero => exact absurd HA.out (by simp [spec_ValOk.j0])
  | succ kj6 =>
   have H := HA
   clear HA
   simp only [spec_ValOk.j0] at H
   replace H := zE H; rcases H with ⟨rfl, H⟩ | ⟨rfl, H⟩
   ·go_upto_region 5 with fail
    replace H := zP H; rcases H with ⟨c14, H⟩ | ⟨c14, H⟩
    ·have c14b0 : (a0_1 == 0) = true := beq_iff_eq.mpr c14
     have c14b1 : (a0_1 != 0) = false := bne_eq_false_iff_eq.mpr c14
     clear c14
     replace H := zP H; rcases H with ⟨c15, H⟩ | ⟨c15, H⟩
     ·have c15b0 : (a0_2.toList == ([] : List UInt8)) = true := beq_iff_eq.mpr c15
      have c15b1 : (a0_2.toList != ([] : List UInt8)) = false := bne_eq_false_iff_eq.mpr c15
      clear c15
      obtain rfl := zi H
      have hz16 := zc4 BK120.out
      go_wp2
      go_ret
      exact ⟨zq1, zq0⟩
     have c15b0 : (a0_2.toList == ([] : List UInt8)) = false := beq_eq_false_iff_ne.mpr c15
     have c15b1 : (a0_2.toList != ([] : List UInt8)) = true := bne_iff_ne.mpr c15
     obtain rfl := zi H
     have hz17 := zc4 BK120.out
     go_wp2
     go_ret
     exact ⟨zq1, zq0⟩
    have c14b0 : (a0_1 == 0) = false := beq_eq_false_iff_ne.mpr c14
    have c14b1 : (a0_1 != 0) = true := bne_iff_ne.mpr c14
    obtain rfl := zi H
    have hz18 := zc4 BK120.out
    go_wp2
    go_ret
    exact ⟨zq1, zq0⟩
   go_upto_region 6 with fail
   replace H := zP H; rcases H with ⟨c20, H⟩ | ⟨c20, H⟩
   ·have c20b0 : (a0_0 == 2) = true := beq_iff_eq.mpr c20
    have c20b1 : (a0_0 != 2) = false := bne_eq_false_iff_eq.mpr c20
    clear c20
    go_upto_region 7 with fail
    replace H := zB H; obtain ⟨t121, A22, H⟩ := H
    try dsimp only at H
    replace H := zP H; rcases H with ⟨c23, H⟩ | ⟨c23, H⟩
    ·have c23b0 : (t121 == a0_1) = true := beq_iff_eq.mpr c23
     have c23b1 : (t121 != a0_1) = false := bne_eq_false_iff_eq.mpr c23
     clear c23
     replace H := zP H; rcases H with ⟨c24, H⟩ | ⟨c24, H⟩
     ·have c24b0 : (a0_2.toList == ([] : List UInt8)) = true := beq_iff_eq.mpr c24
      have c24b1 : (a0_2.toList != ([] : List UInt8)) = false := bne_eq_false_iff_eq.mpr c24
      clear c24
      obtain rfl := zi H
      have hz25 := zc4 BK120.out
      iterate 2 (go_wp2_with (first | (go_at_call 174; (with_reducible refine (spec_l1Clip.calls a0_1 t121 _ A22.out).mono ?_); rintro e w' ⟨rfl, ⟨nd, rfl⟩⟩; (try exact zdd))); try go_quiet (first | (go_at_call 174; (with_reducible refine (spec_l1Clip.calls a0_1 t121 _ A22.out).mono ?_); rintro e w' ⟨rfl, ⟨nd, rfl⟩⟩; (try exact zdd))))
      go_ret
      exact ⟨zq1, zq0⟩
     have c24b0 : (a0_2.toList == ([] : List UInt8)) = false := beq_eq_false_iff_ne.mpr c24
     have c24b1 : (a0_2.toList != ([] : List UInt8)) = true := bne_iff_ne.mpr c24
     obtain rfl := zi H
     have hz26 := zc4 BK120.out
     iterate 2 (go_wp2_with (first | (go_at_call 174; (with_reducible refine (spec_l1Clip.calls a0_1 t121 _ A22.out).mono ?_); rintro e w' ⟨rfl, ⟨nd, rfl⟩⟩; (try exact zdd))); try go_quiet (first | (go_at_call 174; (with_reducible refine (spec_l1Clip.calls a0_1 t121 _ A22.out).mono ?_); rintro e w' ⟨rfl, ⟨nd, rfl⟩⟩; (try exact zdd))))
     go_ret
     exact ⟨zq1, zq0⟩
    have c23b0 : (t121 == a0_1) = false := beq_eq_false_iff_ne.mpr c23
    have c23b1 : (t121 != a0_1) = true := bne_iff_ne.mpr c23
    obtain rfl := zi H
    have hz27 := zc4 BK120.out
    iterate 2 (go_wp2_with (first | (go_at_call 174; (with_reducible refine (spec_l1Clip.calls a0_1 t121 _ A22.out).mono ?_); rintro e w' ⟨rfl, ⟨nd, rfl⟩⟩; (try exact zdd))); try go_quiet (first | (go_at_call 174; (with_reducible refine (spec_l1Clip.calls a0_1 t121 _ A22.out).mono ?_); rintro e w' ⟨rfl, ⟨nd, rfl⟩⟩; (try exact zdd))))
    go_ret
    exact ⟨zq1, zq0⟩
   have c20b0 : (a0_0 == 2) = false := beq_eq_false_iff_ne.mpr c20
   have c20b1 : (a0_0 != 2) = true := bne_iff_ne.mpr c20
   go_upto_region 8 with fail
   replace H := zP H; rcases H with ⟨c29, H⟩ | ⟨c29, H⟩
   ·have c29b0 : (a0_0 == 4) = true := beq_iff_eq.mpr c29
    have c29b1 : (a0_0 != 4) = false := bne_eq_false_iff_eq.mpr c29
    clear c29
    go_upto_region 9 with fail
    replace H := zP H; rcases H with ⟨c31, H⟩ | ⟨c31, H⟩
    ·have c31b0 : decide ((a0_2.size : Int) ≤ 20) = true := decide_eq_true c31
     have c31b1 : decide (a0_2.size ≤ 20) = true := decide_eq_true zq183
     clear c31
     replace H := zP H; rcases H with ⟨c32, H⟩ | ⟨c32, H⟩
     ·have c32b0 : (a0_1 == 0) = true := beq_iff_eq.mpr c32
      have c32b1 : (a0_1 != 0) = false := bne_eq_false_iff_eq.mpr c32
      clear c32
      obtain rfl := zi H
      have hz33 := zc4 BK120.out
      go_wp2
      go_ret
      exact ⟨zq1, zq0⟩
     have c32b0 : (a0_1 == 0) = false := beq_eq_false_iff_ne.mpr c32
     have c32b1 : (a0_1 != 0) = true := bne_iff_ne.mpr c32
     obtain rfl := zi H
     have hz34 := zc4 BK120.out
     go_wp2
     go_ret
     exact ⟨zq1, zq0⟩
    have c31b0 : decide ((a0_2.size : Int) ≤ 20) = false := decide_eq_false c31
    have c31b1 : decide (a0_2.size ≤ 20) = false := decide_eq_false zq183
    clear c31
    obtain rfl := zi H
    have hz35 := zc4 BK120.out
    go_wp2
    go_ret
    exact ⟨zq1, zq0⟩
   have c29b0 : (a0_0 == 4) = false := beq_eq_false_iff_ne.mpr c29
   have c29b1 : (a0_0 != 4) = true := bne_iff_ne.mpr c29
   go_upto_region 10 with fail
   replace H := zP H; rcases H with ⟨c37, H⟩ | ⟨c37, H⟩
   ·have c37b0 : (a0_0 == 6) = true := beq_iff_eq.mpr c37
    have c37b1 : (a0_0 != 6) = false := bne_eq_false_iff_eq.mpr c37
    clear c37
    go_upto_region 11 with fail
    replace H := zB H; obtain ⟨t122, A39, H⟩ := H
    try dsimp only at H
    replace H := zE H; rcases H with ⟨rfl, H⟩ | ⟨rfl, H⟩
    ·by_cases c41 : a0_1 = 0
     ·rw [if_pos c41] at H
      have c41b0 : (a0_1 == 0) = true := beq_iff_eq.mpr c41
      have c41b1 : (a0_1 != 0) = false := bne_eq_false_iff_eq.mpr c41
      clear c41
      obtain rfl := zi H
      have hz42 := zc4 BK120.out
      go_wp2_with (first | (go_at_call 175; (with_reducible refine (spec_OidOk.calls kj6 _ _ l0_3 true _ ?side1 ?side2 A39.out).mono ?_); (case side1 => exact zq73); (case side2 => exact HC0_3.out); rintro e w' ⟨rfl, ⟨nd, rfl⟩⟩; (try exact zdd)))
      go_ret
      exact ⟨zq1, zq0⟩
     ·rw [if_neg c41] at H
      have c41b0 : (a0_1 == 0) = false := beq_eq_false_iff_ne.mpr c41
      have c41b1 : (a0_1 != 0) = true := bne_iff_ne.mpr c41
      obtain rfl := zi H
      have hz43 := zc4 BK120.out
      go_wp2_with (first | (go_at_call 175; (with_reducible refine (spec_OidOk.calls kj6 _ _ l0_3 true _ ?side1 ?side2 A39.out).mono ?_); (case side1 => exact zq73); (case side2 => exact HC0_3.out); rintro e w' ⟨rfl, ⟨nd, rfl⟩⟩; (try exact zdd)))
      go_ret
      exact ⟨zq1, zq0⟩
    obtain rfl := zi H
    have hz44 := zc4 BK120.out
    go_wp2_with (first | (go_at_call 175; (with_reducible refine (spec_OidOk.calls kj6 _ _ l0_3 false _ ?side1 ?side2 A39.out).mono ?_); (case side1 => exact zq73); (case side2 => exact HC0_3.out); rintro e w' ⟨rfl, ⟨nd, rfl⟩⟩; (try exact zdd)))
    go_ret
    exact ⟨zq1, zq0⟩
   have c37b0 : (a0_0 == 6) = false := beq_eq_false_iff_ne.mpr c37
   have c37b1 : (a0_0 != 6) = true := bne_iff_ne.mpr c37
   go_upto_region 12 with fail
   obtain rfl := zi H
   go_wp2
   go_ret
   exact ⟨zq1, zq0⟩

/-! ### spec_l4Kind: function 182 -/
def spec_l4Kind.f (a0 : Int) : Option (Bool) := if a0 = 160 then (some true) else (if a0 = 161 then (some true) else (if a0 = 162 then (some true) else (if a0 = 163 then (some true) else (some (a0 == 165)))))
theorem spec_l4Kind.calls (a0 : Int) (r : Bool) (w : World) (h : spec_l4Kind.f a0 = some r) :
  Calls Try.prog 182 #[.int .i64 a0] w fun e w' => e = .returned (.bool r) ∧ Drawn0 w w' := by
 unfold spec_l4Kind.f at h
 have H := zA h
 clear h
 go_enter Try.func182, Try.ntmps182
 go_upto_region 0 with fail
 go_upto_region 1 with fail
 replace H := zP H; rcases H with ⟨c4, H⟩ | ⟨c4, H⟩
 ·have c4b0 : (a0 == 160) = true := beq_iff_eq.mpr c4
  have c4b1 : (a0 != 160) = false := bne_eq_false_iff_eq.mpr c4
  clear c4
  obtain rfl := zi H
  go_wp2
  go_ret
  exact ⟨zq15, zq65⟩
 have c4b0 : (a0 == 160) = false := beq_eq_false_iff_ne.mpr c4
 have c4b1 : (a0 != 160) = true := bne_iff_ne.mpr c4
 replace H := zP H; rcases H with ⟨c5, H⟩ | ⟨c5, H⟩
 ·have c5b0 : (a0 == 161) = true := beq_iff_eq.mpr c5
  have c5b1 : (a0 != 161) = false := bne_eq_false_iff_eq.mpr c5
  clear c5
  obtain rfl := zi H
  go_wp2
  go_ret
  exact ⟨zq15, zq65⟩
 have c5b0 : (a0 == 161) = false := beq_eq_false_iff_ne.mpr c5
 have c5b1 : (a0 != 161) = true := bne_iff_ne.mpr c5
 replace H := zP H; rcases H with ⟨c6, H⟩ | ⟨c6, H⟩
 ·have c6b0 : (a0 == 162) = true := beq_iff_eq.mpr c6
  have c6b1 : (a0 != 162) = false := bne_eq_false_iff_eq.mpr c6
  clear c6
  obtain rfl := zi H
  go_wp2
  go_ret
  exact ⟨zq15, zq65⟩
 have c6b0 : (a0 == 162) = false := beq_eq_false_iff_ne.mpr c6
 have c6b1 : (a0 != 162) = true := bne_iff_ne.mpr c6
 replace H := zP H; rcases H with ⟨c7, H⟩ | ⟨c7, H⟩
 ·have c7b0 : (a0 == 163) = true := beq_iff_eq.mpr c7
  have c7b1 : (a0 != 163) = false := bne_eq_false_iff_eq.mpr c7
  clear c7
  obtain rfl := zi H
  go_wp2
  go_ret
  exact ⟨zq15, zq65⟩
 have c7b0 : (a0 == 163) = false := beq_eq_false_iff_ne.mpr c7
 have c7b1 : (a0 != 163) = true := bne_iff_ne.mpr c7
 obtain rfl := zi H
 go_wp2
 go_ret
 exact ⟨zq15, zq65⟩

end Go.Proofs.Ytkcgghgkmgbphaa.PFnMsgs
