-- WRITTEN BY a turned copy of the kit's printer (wip/patch_print.py), for this claim
import Derived.Test.YtkcgghgkmgbphaaPFnMsgsx0
namespace Go.Proofs.Ytkcgghgkmgbphaa.PFnMsgs
open Go.RowKit Go.Proofs.YtkcgghgkmgbphaaW.PrintWords Go.Proofs.YtkcgghgkmgbphaaW.PrintLast Go.Proofs.YtkcgghgkmgbphaaW.PrintMore
attribute [local go_sem] max2_int min2_int max_two min_two max_three min_three max_four min_four   -- for this text's walks alone
set_option linter.unusedVariables false
set_option linter.unusedSimpArgs false
set_option maxHeartbeats 8000000
set_option maxRecDepth 100000

attribute [local go_sem] cell_setCell_m
/-! ### laws_big: function 18 -/
def laws_big.f (l0 : List Int) : Option (Bool) := some (decide ((l0.length : Int) > 1048576))
theorem laws_big.calls (A0 : Option Addr) (c0 : Nat) (l0 : List Int) (r : Bool) (w : World) (hr0 : Kd.C (Kd.int .u8) w A0 l0.length l0) (hc0 : l0.length ≤ c0) (h : laws_big.f l0 = some r) :
  Calls Try.prog 18 #[.slice A0 l0.length c0] w fun e w' => e = .returned (.bool r) ∧ Drawn0 w w' := by
 have HR0 := zA hr0
 have HC0 := zA hc0
 clear hr0 hc0
 unfold laws_big.f at h
 have H := zA h
 clear h
 go_enter Try.func18, Try.ntmps18
 go_upto_region 0 with fail
 go_upto_region 1 with fail
 obtain rfl := zi H
 go_wp2
 go_ret
 exact ⟨zq15, zq65⟩

/-! ### laws_sameBytes: function 25 -/
def laws_sameBytes.l0 : Nat → List Int → List Int → Int → Option (Bool)
 | 0, _, _, _ => none
 | k + 1, x0, x1, x5 => if x5 < (x0.length : Int) then (if 0 ≤ x5 then (if x5 < (x1.length : Int) then (if (rd x0 x5) = (rd x1 x5) then (laws_sameBytes.l0 k x0 x1 (wrap64 (x5 + 1))) else (some false)) else (none)) else (none)) else (some true)
def laws_sameBytes.f (k : Nat) (l0 : List Int) (l1 : List Int) : Option (Bool) := if (l0.length : Int) = (l1.length : Int) then (laws_sameBytes.l0 k l0 l1 0) else (some false)
theorem laws_sameBytes.mono_l : ∀ k, (∀ y0 y1 y2, LeO (laws_sameBytes.l0 k y0 y1 y2) (laws_sameBytes.l0 (k + 1) y0 y1 y2))
 | 0 => fun _ _ _ r h => by simp [laws_sameBytes.l0] at h
 | k + 1 => by
  have ih0 := laws_sameBytes.mono_l k
  ·intro y0 y1 y2
   unfold laws_sameBytes.l0
   exact zR
theorem laws_sameBytes.mono : ∀ a0 a1 k, LeO (laws_sameBytes.f k a0 a1) (laws_sameBytes.f (k + 1) a0 a1) := by
 intro a0 a1 k
 have ih0 := laws_sameBytes.mono_l k
 unfold laws_sameBytes.f
 exact zR
theorem laws_sameBytes.calls (k : Nat) (A0 : Option Addr) (c0 : Nat) (l0 : List Int) (A1 : Option Addr) (c1 : Nat) (l1 : List Int) (r : Bool) (w : World) (hr0 : Kd.C (Kd.int .u8) w A0 l0.length l0) (hc0 : l0.length ≤ c0) (hr1 : Kd.C (Kd.int .u8) w A1 l1.length l1) (hc1 : l1.length ≤ c1) (h : laws_sameBytes.f k l0 l1 = some r) :
  Calls Try.prog 25 #[.slice A0 l0.length c0, .slice A1 l1.length c1] w fun e w' => e = .returned (.bool r) ∧ Drawn0 w w' := by
 have HR0 := zA hr0
 have HC0 := zA hc0
 clear hr0 hc0
 have HR1 := zA hr1
 have HC1 := zA hc1
 clear hr1 hc1
 unfold laws_sameBytes.f at h
 have H := zA h
 clear h
 go_enter Try.func25, Try.ntmps25
 go_upto_region 0 with fail
 go_upto_region 1 with fail
 replace H := zP H; rcases H with ⟨c5, H⟩ | ⟨c5, H⟩
 ·have c5b0 : ((l0.length : Int) == (l1.length : Int)) = true := beq_iff_eq.mpr c5
  have c5b1 : ((l0.length : Int) != (l1.length : Int)) = false := bne_eq_false_iff_eq.mpr c5
  have c5b2 : (l0.length == l1.length) = true := by first | simpa using c5 | (simp at c5 ⊢; omega)
  clear c5
  go_upto_region 3 with fail
  have H' := H; clear H
  go_wp2
  go_loopg [5] k (fun kq v5 w' => ∃ (x5_1 : Int), v5 = .int .i64 x5_1 ∧ Aside0 (laws_sameBytes.l0 kq l0 l1 x5_1 = some r) ∧ Aside0 (kq ≤ k) ∧ Drawn0 w w')
  case atStart => exact ⟨(0), zq15, H', ⟨Nat.le_refl _⟩, zq65⟩
  case round =>
   clear H'
   try clear c1
   try clear c2
   try clear p2
   try clear c5
   try clear c5b0
   try clear c5b1
   try clear c5b2
   obtain ⟨x5_1, rfl, HA, HK1, ⟨m1, rfl⟩⟩ := hrel
   cases gk with
   | zero => exact absurd HA.out (by simp [laws_sameBytes.l0])
   | succ k1 =>
    have H := HA
    clear HA
    simp only [laws_sameBytes.l0] at H
    go_upto_region 4 with fail
    replace H := zPd H; rcases H with ⟨c8b0, H⟩ | ⟨c8b0, H⟩
    ·go_upto_region 6 with fail
     replace H := zNd H; obtain ⟨c10b0, H⟩ := H
     replace H := zNd H; obtain ⟨c11b0, H⟩ := H
     replace H := zP H; rcases H with ⟨c12, H⟩ | ⟨c12, H⟩
     ·have c12b0 : ((rd l0 x5_1) == (rd l1 x5_1)) = true := beq_iff_eq.mpr c12
      have c12b1 : ((rd l0 x5_1) != (rd l1 x5_1)) = false := bne_eq_false_iff_eq.mpr c12
      clear c12
      have p101 : 0 ≤ (x5_1 : Int) := of_decide_eq_true zq13
      have q101 : x5_1 < (l0.length : Int) := of_decide_eq_true zq13
      obtain ⟨ad101, e101, hx101_0⟩ := Kd.at_int HR0.out x5_1 p101 q101
      cases e101
      replace p101 := eq_true p101
      replace q101 := eq_true q101
      have p102 : 0 ≤ (x5_1 : Int) := of_decide_eq_true zq13
      have q102 : x5_1 < (l1.length : Int) := of_decide_eq_true zq13
      obtain ⟨ad102, e102, hx102_0⟩ := Kd.at_int HR1.out x5_1 p102 q102
      cases e102
      replace p102 := eq_true p102
      replace q102 := eq_true q102
      iterate 2 (go_upto_region 5 with fail; try go_quiet (fail))
      have H' := H; clear H
      go_wp2
      go_roundg k1
      case measure => have := HK1.out; omega
      case rel => exact ⟨(wrap64 (x5_1 + 1)), zq15, H', ⟨zq182⟩, zq65⟩
     have c12b0 : ((rd l0 x5_1) == (rd l1 x5_1)) = false := beq_eq_false_iff_ne.mpr c12
     have c12b1 : ((rd l0 x5_1) != (rd l1 x5_1)) = true := bne_iff_ne.mpr c12
     have p101 : 0 ≤ (x5_1 : Int) := of_decide_eq_true zq13
     have q101 : x5_1 < (l0.length : Int) := of_decide_eq_true zq13
     obtain ⟨ad101, e101, hx101_0⟩ := Kd.at_int HR0.out x5_1 p101 q101
     cases e101
     replace p101 := eq_true p101
     replace q101 := eq_true q101
     have p102 : 0 ≤ (x5_1 : Int) := of_decide_eq_true zq13
     have q102 : x5_1 < (l1.length : Int) := of_decide_eq_true zq13
     obtain ⟨ad102, e102, hx102_0⟩ := Kd.at_int HR1.out x5_1 p102 q102
     cases e102
     replace p102 := eq_true p102
     replace q102 := eq_true q102
     iterate 2 (go_upto_region 7 with fail; try go_quiet (fail))
     obtain rfl := zi H
     go_wp2
     go_ret
     exact ⟨zq15, zq65⟩
    go_upto_region 8 with fail
    obtain rfl := zi H
    go_wp2
    go_ret
    exact ⟨zq15, zq65⟩
 have c5b0 : ((l0.length : Int) == (l1.length : Int)) = false := beq_eq_false_iff_ne.mpr c5
 have c5b1 : ((l0.length : Int) != (l1.length : Int)) = true := bne_iff_ne.mpr c5
 have c5b2 : (l0.length == l1.length) = false := by first | simpa using c5 | (simp at c5 ⊢; omega)
 go_upto_region 2 with fail
 obtain rfl := zi H
 go_wp2
 go_ret
 exact ⟨zq15, zq65⟩

/-! ### impl_SameOid: function 128 -/
def impl_SameOid.l0 : Nat → List Int → List Int → Int → Int → Option (Bool)
 | 0, _, _, _, _ => none
 | k + 1, x0, x1, x12, x13 => if x13 < x12 then (if 0 ≤ x13 then (if x13 < (x0.length : Int) then (if x13 < (x1.length : Int) then (if (rd x0 x13) = (rd x1 x13) then (impl_SameOid.l0 k x0 x1 x12 (wrap64 (x13 + 1))) else (some false)) else (none)) else (none)) else (none)) else (some true)
def impl_SameOid.f (k : Nat) (l0 : List Int) (l1 : List Int) : Option (Bool) := if (l0.length : Int) = (l1.length : Int) then (impl_SameOid.l0 k l0 l1 (l0.length : Int) 0) else (some false)
theorem impl_SameOid.mono_l : ∀ k, (∀ y0 y1 y2 y3, LeO (impl_SameOid.l0 k y0 y1 y2 y3) (impl_SameOid.l0 (k + 1) y0 y1 y2 y3))
 | 0 => fun _ _ _ _ r h => by simp [impl_SameOid.l0] at h
 | k + 1 => by
  have ih0 := impl_SameOid.mono_l k
  ·intro y0 y1 y2 y3
   unfold impl_SameOid.l0
   exact zR
theorem impl_SameOid.mono : ∀ a0 a1 k, LeO (impl_SameOid.f k a0 a1) (impl_SameOid.f (k + 1) a0 a1) := by
 intro a0 a1 k
 have ih0 := impl_SameOid.mono_l k
 unfold impl_SameOid.f
 exact zR
theorem impl_SameOid.calls (k : Nat) (A0 : Option Addr) (c0 : Nat) (l0 : List Int) (A1 : Option Addr) (c1 : Nat) (l1 : List Int) (r : Bool) (w : World) (hr0 : Kd.C (Kd.int .i64) w A0 l0.length l0) (hc0 : l0.length ≤ c0) (hr1 : Kd.C (Kd.int .i64) w A1 l1.length l1) (hc1 : l1.length ≤ c1) (h : impl_SameOid.f k l0 l1 = some r) :
  Calls Try.prog 128 #[.slice A0 l0.length c0, .slice A1 l1.length c1] w fun e w' => e = .returned (.bool r) ∧ Drawn0 w w' := by
 have HR0 := zA hr0
 have HC0 := zA hc0
 clear hr0 hc0
 have HR1 := zA hr1
 have HC1 := zA hc1
 clear hr1 hc1
 unfold impl_SameOid.f at h
 have H := zA h
 clear h
 go_enter Try.func128, Try.ntmps128
 go_upto_region 0 with fail
 go_upto_region 1 with fail
 replace H := zP H; rcases H with ⟨c5, H⟩ | ⟨c5, H⟩
 ·have c5b0 : ((l0.length : Int) == (l1.length : Int)) = true := beq_iff_eq.mpr c5
  have c5b1 : ((l0.length : Int) != (l1.length : Int)) = false := bne_eq_false_iff_eq.mpr c5
  have c5b2 : (l0.length == l1.length) = true := by first | simpa using c5 | (simp at c5 ⊢; omega)
  clear c5
  go_upto_region 3 with fail
  have H' := H; clear H
  go_wp2
  go_loopg [13] k (fun kq v13 w' => ∃ (x13_1 : Int), v13 = .int .i64 x13_1 ∧ Aside0 (impl_SameOid.l0 kq l0 l1 (l0.length : Int) x13_1 = some r) ∧ Aside0 (kq ≤ k) ∧ Drawn0 w w')
  case atStart => exact ⟨(0), zq15, H', ⟨Nat.le_refl _⟩, zq65⟩
  case round =>
   clear H'
   try clear c1
   try clear p2
   try clear c5
   try clear c5b0
   try clear c5b1
   try clear c5b2
   obtain ⟨x13_1, rfl, HA, HK1, ⟨m1, rfl⟩⟩ := hrel
   cases gk with
   | zero => exact absurd HA.out (by simp [impl_SameOid.l0])
   | succ k1 =>
    have H := HA
    clear HA
    simp only [impl_SameOid.l0] at H
    go_upto_region 4 with fail
    replace H := zPd H; rcases H with ⟨c8b0, H⟩ | ⟨c8b0, H⟩
    ·go_upto_region 5 with fail
     go_upto_region 6 with fail
     replace H := zNd H; obtain ⟨c11b0, H⟩ := H
     replace H := zNd H; obtain ⟨c12b0, H⟩ := H
     replace H := zNd H; obtain ⟨c13b0, H⟩ := H
     replace H := zP H; rcases H with ⟨c14, H⟩ | ⟨c14, H⟩
     ·have c14b0 : ((rd l0 x13_1) == (rd l1 x13_1)) = true := beq_iff_eq.mpr c14
      have c14b1 : ((rd l0 x13_1) != (rd l1 x13_1)) = false := bne_eq_false_iff_eq.mpr c14
      clear c14
      have p103 : 0 ≤ (x13_1 : Int) := of_decide_eq_true zq13
      have q103 : x13_1 < (l0.length : Int) := of_decide_eq_true zq13
      obtain ⟨ad103, e103, hx103_0⟩ := Kd.at_int HR0.out x13_1 p103 q103
      cases e103
      replace p103 := eq_true p103
      replace q103 := eq_true q103
      have p104 : 0 ≤ (x13_1 : Int) := of_decide_eq_true zq13
      have q104 : x13_1 < (l1.length : Int) := of_decide_eq_true zq13
      obtain ⟨ad104, e104, hx104_0⟩ := Kd.at_int HR1.out x13_1 p104 q104
      cases e104
      replace p104 := eq_true p104
      replace q104 := eq_true q104
      iterate 2 (go_upto_region 8 with fail; try go_quiet (fail))
      have H' := H; clear H
      go_wp2
      go_roundg k1
      case measure => have := HK1.out; omega
      case rel => exact ⟨(wrap64 (x13_1 + 1)), zq15, H', ⟨zq182⟩, zq65⟩
     have c14b0 : ((rd l0 x13_1) == (rd l1 x13_1)) = false := beq_eq_false_iff_ne.mpr c14
     have c14b1 : ((rd l0 x13_1) != (rd l1 x13_1)) = true := bne_iff_ne.mpr c14
     have p103 : 0 ≤ (x13_1 : Int) := of_decide_eq_true zq13
     have q103 : x13_1 < (l0.length : Int) := of_decide_eq_true zq13
     obtain ⟨ad103, e103, hx103_0⟩ := Kd.at_int HR0.out x13_1 p103 q103
     cases e103
     replace p103 := eq_true p103
     replace q103 := eq_true q103
     have p104 : 0 ≤ (x13_1 : Int) := of_decide_eq_true zq13
     have q104 : x13_1 < (l1.length : Int) := of_decide_eq_true zq13
     obtain ⟨ad104, e104, hx104_0⟩ := Kd.at_int HR1.out x13_1 p104 q104
     cases e104
     replace p104 := eq_true p104
     replace q104 := eq_true q104
     iterate 2 (go_upto_region 7 with fail; try go_quiet (fail))
     obtain rfl := zi H
     go_wp2
     go_ret
     exact ⟨zq15, zq65⟩
    go_upto_region 9 with fail
    obtain rfl := zi H
    go_wp2
    go_ret
    exact ⟨zq15, zq65⟩
 have c5b0 : ((l0.length : Int) == (l1.length : Int)) = false := beq_eq_false_iff_ne.mpr c5
 have c5b1 : ((l0.length : Int) != (l1.length : Int)) = true := bne_iff_ne.mpr c5
 have c5b2 : (l0.length == l1.length) = false := by first | simpa using c5 | (simp at c5 ⊢; omega)
 go_upto_region 2 with fail
 obtain rfl := zi H
 go_wp2
 go_ret
 exact ⟨zq15, zq65⟩

/-! ### impl_SameVal: function 93 -/
def impl_SameVal.f (k : Nat) (a0_0 : Int) (a0_1 : Int) (a0_2 : ByteArray) (l0_3 : List Int) (a1_0 : Int) (a1_1 : Int) (a1_2 : ByteArray) (l1_3 : List Int) : Option (Bool) := if a0_0 = a1_0 then (if a0_1 = a1_1 then (if a0_2.toList = a1_2.toList then ((impl_SameOid.f k l0_3 l1_3).bind fun t107 => (some t107)) else (some false)) else (some false)) else (some false)
theorem impl_SameVal.mono : ∀ a0 a1 a2 a3 a4 a5 a6 a7 k, LeO (impl_SameVal.f k a0 a1 a2 a3 a4 a5 a6 a7) (impl_SameVal.f (k + 1) a0 a1 a2 a3 a4 a5 a6 a7) := by
 intro a0 a1 a2 a3 a4 a5 a6 a7 k
 unfold impl_SameVal.f
 have m0_ := @impl_SameOid.mono
 exact zR
theorem impl_SameVal.calls (k : Nat) (a0_0 : Int) (a0_1 : Int) (a0_2 : ByteArray) (A0_3 : Option Addr) (c0_3 : Nat) (l0_3 : List Int) (a1_0 : Int) (a1_1 : Int) (a1_2 : ByteArray) (A1_3 : Option Addr) (c1_3 : Nat) (l1_3 : List Int) (r : Bool) (w : World) (hr0_3 : Kd.C (Kd.int .i64) w A0_3 l0_3.length l0_3) (hc0_3 : l0_3.length ≤ c0_3) (hr1_3 : Kd.C (Kd.int .i64) w A1_3 l1_3.length l1_3) (hc1_3 : l1_3.length ≤ c1_3) (h : impl_SameVal.f k a0_0 a0_1 a0_2 l0_3 a1_0 a1_1 a1_2 l1_3 = some r) :
  Calls Try.prog 93 #[.agg #[.int .i64 a0_0, .int .i64 a0_1, .string a0_2, .slice A0_3 l0_3.length c0_3], .agg #[.int .i64 a1_0, .int .i64 a1_1, .string a1_2, .slice A1_3 l1_3.length c1_3]] w fun e w' => e = .returned (.bool r) ∧ Below w.heap.size w w' := by
 have hu76 := Try.underlying76
 have HR0_3 := zA hr0_3
 have HC0_3 := zA hc0_3
 clear hr0_3 hc0_3
 have HR1_3 := zA hr1_3
 have HC1_3 := zA hc1_3
 clear hr1_3 hc1_3
 have HB := zA (Below.refl w.heap.size w)
 unfold impl_SameVal.f at h
 have H := zA h
 clear h
 go_enter Try.func93, Try.ntmps93
 go_upto_region 0 with fail
 go_upto_region 1 with (first | ((with_reducible refine gate_dst (N := 2) rfl ?_); refine box_event ?hg (N := 2) ?hd (cs := #[.int .i64 a0_0, .int .i64 a0_1, .string a0_2, .slice A0_3 l0_3.length c0_3]) (t := 76) ?hr ?_; (case hd => rfl); (case hg => rfl); (case hr => exact zgs); intro gb105 hg w5 hbox hb; have BK105 := zA (hbox); have GW105 := zA ((zq5 : w.heap.size ≤ gb105)); have GE105 := zA ((zq5 : w.heap.size ≤ gb105)); replace HB := zA (below_step zq0 hb); clear hb hbox hg) | ((with_reducible refine gate_dst (N := 3) rfl ?_); refine box_event ?hg (N := 3) ?hd (cs := #[.int .i64 a1_0, .int .i64 a1_1, .string a1_2, .slice A1_3 l1_3.length c1_3]) (t := 76) ?hr ?_; (case hd => rfl); (case hg => rfl); (case hr => exact zgs); intro gb106 hg w6 hbox hb; have BK106 := zA (hbox); have GW106 := zA ((zq250 : w.heap.size ≤ gb106)); have GE106 := zA ((zq250 : w.heap.size ≤ gb106)); replace HB := zA (below_step zq0 hb); have NB105_106 := zA ((by rw [hg]; exact Nat.ne_of_lt (blk_lt (g := gb105) (o := .cells #[.int .i64 a0_0, .int .i64 a0_1, .string a0_2, .slice A0_3 l0_3.length c0_3] 76 (0, 0)) (zbk BK105.out)) : gb105 ≠ gb106)); have NB106_105 := zA ((by rw [hg]; exact Nat.ne_of_gt (blk_lt (g := gb105) (o := .cells #[.int .i64 a0_0, .int .i64 a0_1, .string a0_2, .slice A0_3 l0_3.length c0_3] 76 (0, 0)) (zbk BK105.out)) : gb106 ≠ gb105)); replace BK105 := zA (zbb BK105.out hb); clear hb hbox hg))
 (try simp only [zvs])
 replace H := zP H; rcases H with ⟨c7, H⟩ | ⟨c7, H⟩
 ·have c7b0 : (a0_0 == a1_0) = true := beq_iff_eq.mpr c7
  have c7b1 : (a0_0 != a1_0) = false := bne_eq_false_iff_eq.mpr c7
  clear c7
  replace H := zP H; rcases H with ⟨c8, H⟩ | ⟨c8, H⟩
  ·have c8b0 : (a0_1 == a1_1) = true := beq_iff_eq.mpr c8
   have c8b1 : (a0_1 != a1_1) = false := bne_eq_false_iff_eq.mpr c8
   clear c8
   replace H := zP H; rcases H with ⟨c9, H⟩ | ⟨c9, H⟩
   ·have c9b0 : (a0_2.toList == a1_2.toList) = true := beq_iff_eq.mpr c9
    have c9b1 : (a0_2.toList != a1_2.toList) = false := bne_eq_false_iff_eq.mpr c9
    clear c9
    replace H := zB H; obtain ⟨t107, A10, H⟩ := H
    try dsimp only at H
    obtain rfl := zi H
    have hn11 := zn NB105_106
    have hz12 := zc4 BK105.out
    have hz13 := zc4 BK106.out
    go_wp2_with (first | (go_at_call 128; (with_reducible refine (impl_SameOid.calls k _ _ l0_3 _ _ l1_3 t107 _ ?side1 ?side2 ?side3 ?side4 A10.out).mono ?_); (case side1 => exact zq73); (case side2 => exact HC0_3.out); (case side3 => exact zq101); (case side4 => exact HC1_3.out); rintro e w' ⟨rfl, ⟨nd, rfl⟩⟩))
    go_ret
    exact ⟨zq1, zq0⟩
   have c9b0 : (a0_2.toList == a1_2.toList) = false := beq_eq_false_iff_ne.mpr c9
   have c9b1 : (a0_2.toList != a1_2.toList) = true := bne_iff_ne.mpr c9
   obtain rfl := zi H
   have hn14 := zn NB105_106
   have hz15 := zc4 BK105.out
   have hz16 := zc4 BK106.out
   go_wp2
   go_ret
   exact ⟨zq1, zq0⟩
  have c8b0 : (a0_1 == a1_1) = false := beq_eq_false_iff_ne.mpr c8
  have c8b1 : (a0_1 != a1_1) = true := bne_iff_ne.mpr c8
  obtain rfl := zi H
  have hn17 := zn NB105_106
  have hz18 := zc4 BK105.out
  have hz19 := zc4 BK106.out
  go_wp2
  go_ret
  exact ⟨zq1, zq0⟩
 have c7b0 : (a0_0 == a1_0) = false := beq_eq_false_iff_ne.mpr c7
 have c7b1 : (a0_0 != a1_0) = true := bne_iff_ne.mpr c7
 obtain rfl := zi H
 have hn20 := zn NB105_106
 have hz21 := zc4 BK105.out
 have hz22 := zc4 BK106.out
 go_wp2
 go_ret
 exact ⟨zq1, zq0⟩

end Go.Proofs.Ytkcgghgkmgbphaa.PFnMsgs
