-- WRITTEN BY a turned copy of the kit's printer (wip/patch_print.py), for this claim
import Derived.Test.YtkcgghgkmgbphaaPFnMsgsx0
import Derived.Test.YtkcgghgkmgbphaaPFnMsgsx2
namespace Go.Proofs.Ytkcgghgkmgbphaa.PFnMsgs
open Go.RowKit Go.Proofs.YtkcgghgkmgbphaaW.PrintWords Go.Proofs.YtkcgghgkmgbphaaW.PrintLast Go.Proofs.YtkcgghgkmgbphaaW.PrintMore
attribute [local go_sem] max2_int min2_int max_two min_two max_three min_three max_four min_four   -- for this text's walks alone
set_option linter.unusedVariables false
set_option linter.unusedSimpArgs false
set_option maxHeartbeats 8000000
set_option maxRecDepth 100000

attribute [local go_sem] cell_setCell_m
/-! ### laws_samePdu: function 28 -/
def laws_samePdu.f (k : Nat) (a0_0 : Int) (a0_1 : Int) (a0_2 : Int) (a0_3 : Int) (l0_4 : List (S116)) (a1_0 : Int) (a1_1 : Int) (a1_2 : Int) (a1_3 : Int) (l1_4 : List (S116)) : Option (Bool) := if a0_0 = a1_0 then (if a0_1 = a1_1 then (if a0_2 = a1_2 then (if a0_3 = a1_3 then ((impl_SameBinds.f k l0_4 l1_4).bind fun t116 => (some t116)) else (some false)) else (some false)) else (some false)) else (some false)
theorem laws_samePdu.mono : ∀ a0 a1 a2 a3 a4 a5 a6 a7 a8 a9 k, LeO (laws_samePdu.f k a0 a1 a2 a3 a4 a5 a6 a7 a8 a9) (laws_samePdu.f (k + 1) a0 a1 a2 a3 a4 a5 a6 a7 a8 a9) := by
 intro a0 a1 a2 a3 a4 a5 a6 a7 a8 a9 k
 unfold laws_samePdu.f
 have m0_ := @impl_SameBinds.mono
 exact zR
theorem laws_samePdu.calls (k : Nat) (a0_0 : Int) (a0_1 : Int) (a0_2 : Int) (a0_3 : Int) (A0_4 : Option Addr) (c0_4 : Nat) (l0_4 : List (S116)) (a1_0 : Int) (a1_1 : Int) (a1_2 : Int) (a1_3 : Int) (A1_4 : Option Addr) (c1_4 : Nat) (l1_4 : List (S116)) (r : Bool) (w : World) (hr0_4 : Kd.C k116 w A0_4 l0_4.length l0_4) (hc0_4 : l0_4.length ≤ c0_4) (hr1_4 : Kd.C k116 w A1_4 l1_4.length l1_4) (hc1_4 : l1_4.length ≤ c1_4) (h : laws_samePdu.f k a0_0 a0_1 a0_2 a0_3 l0_4 a1_0 a1_1 a1_2 a1_3 l1_4 = some r) :
  Calls Try.prog 28 #[.agg #[.int .i64 a0_0, .int .i64 a0_1, .int .i64 a0_2, .int .i64 a0_3, .slice A0_4 l0_4.length c0_4], .agg #[.int .i64 a1_0, .int .i64 a1_1, .int .i64 a1_2, .int .i64 a1_3, .slice A1_4 l1_4.length c1_4]] w fun e w' => e = .returned (.bool r) ∧ Below w.heap.size w w' := by
 have hu26 := Try.underlying26
 have HR0_4 := zA hr0_4
 have HC0_4 := zA hc0_4
 clear hr0_4 hc0_4
 have HR1_4 := zA hr1_4
 have HC1_4 := zA hc1_4
 clear hr1_4 hc1_4
 have HB := zA (Below.refl w.heap.size w)
 unfold laws_samePdu.f at h
 have H := zA h
 clear h
 go_enter Try.func28, Try.ntmps28
 go_upto_region 0 with fail
 go_upto_region 1 with (first | ((with_reducible refine gate_dst (N := 2) rfl ?_); refine box_event ?hg (N := 2) ?hd (cs := #[.int .i64 a0_0, .int .i64 a0_1, .int .i64 a0_2, .int .i64 a0_3, .slice A0_4 l0_4.length c0_4]) (t := 26) ?hr ?_; (case hd => rfl); (case hg => rfl); (case hr => exact zgs); intro gb114 hg w5 hbox hb; have BK114 := zA (hbox); have GW114 := zA ((zq5 : w.heap.size ≤ gb114)); have GE114 := zA ((zq5 : w.heap.size ≤ gb114)); replace HB := zA (below_step zq0 hb); clear hb hbox hg) | ((with_reducible refine gate_dst (N := 3) rfl ?_); refine box_event ?hg (N := 3) ?hd (cs := #[.int .i64 a1_0, .int .i64 a1_1, .int .i64 a1_2, .int .i64 a1_3, .slice A1_4 l1_4.length c1_4]) (t := 26) ?hr ?_; (case hd => rfl); (case hg => rfl); (case hr => exact zgs); intro gb115 hg w6 hbox hb; have BK115 := zA (hbox); have GW115 := zA ((zq251 : w.heap.size ≤ gb115)); have GE115 := zA ((zq251 : w.heap.size ≤ gb115)); replace HB := zA (below_step zq0 hb); have NB114_115 := zA ((by rw [hg]; exact Nat.ne_of_lt (blk_lt (g := gb114) (o := .cells #[.int .i64 a0_0, .int .i64 a0_1, .int .i64 a0_2, .int .i64 a0_3, .slice A0_4 l0_4.length c0_4] 26 (0, 0)) (zbk BK114.out)) : gb114 ≠ gb115)); have NB115_114 := zA ((by rw [hg]; exact Nat.ne_of_gt (blk_lt (g := gb114) (o := .cells #[.int .i64 a0_0, .int .i64 a0_1, .int .i64 a0_2, .int .i64 a0_3, .slice A0_4 l0_4.length c0_4] 26 (0, 0)) (zbk BK114.out)) : gb115 ≠ gb114)); replace BK114 := zA (zbb BK114.out hb); clear hb hbox hg))
 (try simp only [zvs])
 replace H := zP H; rcases H with ⟨c7, H⟩ | ⟨c7, H⟩
 ·have c7b0 : (a0_0 == a1_0) = true := beq_iff_eq.mpr c7
  have c7b1 : (a0_0 != a1_0) = false := bne_eq_false_iff_eq.mpr c7
  clear c7
  replace H := zP H; rcases H with ⟨c8, H⟩ | ⟨c8, H⟩
  ·have c8b0 : (a0_1 == a1_1) = true := beq_iff_eq.mpr c8
   have c8b1 : (a0_1 != a1_1) = false := bne_eq_false_iff_eq.mpr c8
   clear c8
   replace H := zP H; rcases H with ⟨c9, H⟩ | ⟨c9, H⟩
   ·have c9b0 : (a0_2 == a1_2) = true := beq_iff_eq.mpr c9
    have c9b1 : (a0_2 != a1_2) = false := bne_eq_false_iff_eq.mpr c9
    clear c9
    replace H := zP H; rcases H with ⟨c10, H⟩ | ⟨c10, H⟩
    ·have c10b0 : (a0_3 == a1_3) = true := beq_iff_eq.mpr c10
     have c10b1 : (a0_3 != a1_3) = false := bne_eq_false_iff_eq.mpr c10
     clear c10
     replace H := zB H; obtain ⟨t116, A11, H⟩ := H
     try dsimp only at H
     obtain rfl := zi H
     have hn12 := zn NB114_115
     have hz13 := zc5 BK114.out
     have hz14 := zc5 BK115.out
     go_wp2_with (first | (go_at_call 29; (with_reducible refine (impl_SameBinds.calls k _ _ l0_4 _ _ l1_4 t116 _ ?side1 ?side2 ?side3 ?side4 A11.out).mono ?_); (case side1 => exact zq102); (case side2 => exact HC0_4.out); (case side3 => exact zq200); (case side4 => exact HC1_4.out); rintro e w15 ⟨rfl, hb⟩; replace BK114 := zA (zbb BK114.out hb); replace BK115 := zA (zbb BK115.out hb); replace HB := zA (below_step zq0 hb); clear hb))
     go_ret
     exact ⟨zq1, zq0⟩
    have c10b0 : (a0_3 == a1_3) = false := beq_eq_false_iff_ne.mpr c10
    have c10b1 : (a0_3 != a1_3) = true := bne_iff_ne.mpr c10
    obtain rfl := zi H
    have hn16 := zn NB114_115
    have hz17 := zc5 BK114.out
    have hz18 := zc5 BK115.out
    go_wp2
    go_ret
    exact ⟨zq1, zq0⟩
   have c9b0 : (a0_2 == a1_2) = false := beq_eq_false_iff_ne.mpr c9
   have c9b1 : (a0_2 != a1_2) = true := bne_iff_ne.mpr c9
   obtain rfl := zi H
   have hn19 := zn NB114_115
   have hz20 := zc5 BK114.out
   have hz21 := zc5 BK115.out
   go_wp2
   go_ret
   exact ⟨zq1, zq0⟩
  have c8b0 : (a0_1 == a1_1) = false := beq_eq_false_iff_ne.mpr c8
  have c8b1 : (a0_1 != a1_1) = true := bne_iff_ne.mpr c8
  obtain rfl := zi H
  have hn22 := zn NB114_115
  have hz23 := zc5 BK114.out
  have hz24 := zc5 BK115.out
  go_wp2
  go_ret
  exact ⟨zq1, zq0⟩
 have c7b0 : (a0_0 == a1_0) = false := beq_eq_false_iff_ne.mpr c7
 have c7b1 : (a0_0 != a1_0) = true := bne_iff_ne.mpr c7
 obtain rfl := zi H
 have hn25 := zn NB114_115
 have hz26 := zc5 BK114.out
 have hz27 := zc5 BK115.out
 go_wp2
 go_ret
 exact ⟨zq1, zq0⟩

/-! ### spec_l1Clip: function 174 -/
def spec_l1Clip.f (a0 : Int) : Option (Int) := if a0 > 2147483647 then (some 2147483647) else (if a0 < (-2147483648) then (some (-2147483648)) else (some a0))
theorem spec_l1Clip.calls (a0 : Int) (r : Int) (w : World) (h : spec_l1Clip.f a0 = some r) :
  Calls Try.prog 174 #[.int .i64 a0] w fun e w' => e = .returned (.int .i64 r) ∧ Drawn0 w w' := by
 unfold spec_l1Clip.f at h
 have H := zA h
 clear h
 go_enter Try.func174, Try.ntmps174
 go_upto_region 0 with fail
 go_upto_region 1 with fail
 replace H := zPd H; rcases H with ⟨c4b0, H⟩ | ⟨c4b0, H⟩
 ·go_upto_region 2 with fail
  obtain rfl := zi H
  go_wp2
  go_ret
  exact ⟨zq15, zq65⟩
 go_upto_region 3 with fail
 replace H := zPd H; rcases H with ⟨c7b0, H⟩ | ⟨c7b0, H⟩
 ·go_upto_region 4 with fail
  obtain rfl := zi H
  go_wp2
  go_ret
  exact ⟨zq15, zq65⟩
 go_upto_region 5 with fail
 obtain rfl := zi H
 go_wp2
 go_ret
 exact ⟨zq15, zq65⟩

/-! ### spec_l1In: function 150 -/
def spec_l1In.f (a0 : Int) (a1 : Int) (a2 : Int) : Option (Bool) := if a0 ≥ a1 then (some (decide (a0 ≤ a2))) else (some false)
theorem spec_l1In.calls (a0 : Int) (a1 : Int) (a2 : Int) (r : Bool) (w : World) (h : spec_l1In.f a0 a1 a2 = some r) :
  Calls Try.prog 150 #[.int .i64 a0, .int .i64 a1, .int .i64 a2] w fun e w' => e = .returned (.bool r) ∧ Drawn0 w w' := by
 unfold spec_l1In.f at h
 have H := zA h
 clear h
 go_enter Try.func150, Try.ntmps150
 go_upto_region 0 with fail
 go_upto_region 1 with fail
 replace H := zPd H; rcases H with ⟨c6b0, H⟩ | ⟨c6b0, H⟩
 ·obtain rfl := zi H
  go_wp2
  go_ret
  exact ⟨zq15, zq65⟩
 obtain rfl := zi H
 go_wp2
 go_ret
 exact ⟨zq15, zq65⟩

/-! ### spec_OidOk: function 175 -/
def spec_OidOk.l0 : Nat → List Int → Int → Option (Bool)
 | 0, _, _ => none
 | k + 1, x0, x3 => if x3 < (x0.length : Int) then (if 0 ≤ x3 then ((spec_l1In.f (rd x0 x3) 0 100000).bind fun t118 => (if t118 = true then (spec_OidOk.l0 k x0 (wrap64 (x3 + 1))) else (some false))) else (none)) else ((spec_l1In.f (x0.length : Int) 1 10).bind fun t119 => (some t119))
def spec_OidOk.f (k : Nat) (l0 : List Int) : Option (Bool) := spec_OidOk.l0 k l0 0
theorem spec_OidOk.mono_l : ∀ k, (∀ y0 y1, LeO (spec_OidOk.l0 k y0 y1) (spec_OidOk.l0 (k + 1) y0 y1))
 | 0 => fun _ _ r h => by simp [spec_OidOk.l0] at h
 | k + 1 => by
  have ih0 := spec_OidOk.mono_l k
  ·intro y0 y1
   unfold spec_OidOk.l0
   exact zR
theorem spec_OidOk.mono : ∀ a0 k, LeO (spec_OidOk.f k a0) (spec_OidOk.f (k + 1) a0) := by
 intro a0 k
 have ih0 := spec_OidOk.mono_l k
 unfold spec_OidOk.f
 exact zR
theorem spec_OidOk.calls (k : Nat) (A0 : Option Addr) (c0 : Nat) (l0 : List Int) (r : Bool) (w : World) (hr0 : Kd.C (Kd.int .i64) w A0 l0.length l0) (hc0 : l0.length ≤ c0) (h : spec_OidOk.f k l0 = some r) :
  Calls Try.prog 175 #[.slice A0 l0.length c0] w fun e w' => e = .returned (.bool r) ∧ Drawn0 w w' := by
 have HR0 := zA hr0
 have HC0 := zA hc0
 clear hr0 hc0
 unfold spec_OidOk.f at h
 have H := zA h
 clear h
 go_enter Try.func175, Try.ntmps175
 go_upto_region 0 with fail
 go_upto_region 1 with fail
 have H' := H; clear H
 go_wp2
 go_loopg [3] k (fun kq v3 w' => ∃ (x3_1 : Int), v3 = .int .i64 x3_1 ∧ Aside0 (spec_OidOk.l0 kq l0 x3_1 = some r) ∧ Aside0 (kq ≤ k) ∧ Drawn0 w w')
 case atStart => exact ⟨(0), zq15, H', ⟨Nat.le_refl _⟩, zq65⟩
 case round =>
  clear H'
  try clear c1
  try clear p2
  obtain ⟨x3_1, rfl, HA, HK1, ⟨m1, rfl⟩⟩ := hrel
  cases gk with
  | zero => exact absurd HA.out (by simp [spec_OidOk.l0])
  | succ k1 =>
   have H := HA
   clear HA
   simp only [spec_OidOk.l0] at H
   go_upto_region 2 with fail
   replace H := zPd H; rcases H with ⟨c5b0, H⟩ | ⟨c5b0, H⟩
   ·go_upto_region 4 with fail
    replace H := zNd H; obtain ⟨c7b0, H⟩ := H
    replace H := zB H; obtain ⟨t118, A8, H⟩ := H
    try dsimp only at H
    replace H := zE H; rcases H with ⟨rfl, H⟩ | ⟨rfl, H⟩
    ·have p117 : 0 ≤ (x3_1 : Int) := of_decide_eq_true zq13
     have q117 : x3_1 < (l0.length : Int) := of_decide_eq_true zq13
     obtain ⟨ad117, e117, hx117_0⟩ := Kd.at_int HR0.out x3_1 p117 q117
     cases e117
     replace p117 := eq_true p117
     replace q117 := eq_true q117
     go_upto_region 3 with (first | ((with_reducible refine zg150 rfl ?_); refine zl150 (some 14) #[.int .i64 (rd l0 x3_1), .int .i64 0, .int .i64 100000] ?_; (with_reducible refine (spec_l1In.calls (rd l0 x3_1) 0 100000 true _ A8.out).mono ?_); rintro e w' ⟨rfl, ⟨nd, rfl⟩⟩; refine ⟨_, rfl, ?_⟩))
     (try simp only [zvs])
     have H' := H; clear H
     go_wp2
     go_roundg k1
     case measure => have := HK1.out; omega
     case rel => exact ⟨(wrap64 (x3_1 + 1)), zq15, H', ⟨zq182⟩, zq65⟩
    have p117 : 0 ≤ (x3_1 : Int) := of_decide_eq_true zq13
    have q117 : x3_1 < (l0.length : Int) := of_decide_eq_true zq13
    obtain ⟨ad117, e117, hx117_0⟩ := Kd.at_int HR0.out x3_1 p117 q117
    cases e117
    replace p117 := eq_true p117
    replace q117 := eq_true q117
    go_upto_region 5 with (first | ((with_reducible refine zg150 rfl ?_); refine zl150 (some 14) #[.int .i64 (rd l0 x3_1), .int .i64 0, .int .i64 100000] ?_; (with_reducible refine (spec_l1In.calls (rd l0 x3_1) 0 100000 false _ A8.out).mono ?_); rintro e w' ⟨rfl, ⟨nd, rfl⟩⟩; refine ⟨_, rfl, ?_⟩))
    (try simp only [zvs])
    obtain rfl := zi H
    go_wp2
    go_ret
    exact ⟨zq15, zq65⟩
   go_upto_region 6 with fail
   replace H := zB H; obtain ⟨t119, A13, H⟩ := H
   try dsimp only at H
   obtain rfl := zi H
   go_wp2_with (first | ((with_reducible refine zg150 rfl ?_); refine zl150 (some 18) #[.int .i64 (l0.length : Int), .int .i64 1, .int .i64 10] ?_; (with_reducible refine (spec_l1In.calls (l0.length : Int) 1 10 t119 _ A13.out).mono ?_); rintro e w' ⟨rfl, ⟨nd, rfl⟩⟩; refine ⟨_, rfl, ?_⟩))
   go_ret
   exact ⟨zq15, zq65⟩

end Go.Proofs.Ytkcgghgkmgbphaa.PFnMsgs
