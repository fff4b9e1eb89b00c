-- WRITTEN BY a turned copy of the kit's printer (wip/patch_print.py), for this claim
import Derived.Test.YtkcgghgkmgbphaaPFnMsgsx0
import Derived.Test.YtkcgghgkmgbphaaPFnMsgsx9
import Derived.Test.YtkcgghgkmgbphaaPFnMsgsx10
namespace Go.Proofs.Ytkcgghgkmgbphaa.PFnMsgs
open Go.RowKit Go.Proofs.YtkcgghgkmgbphaaW.PrintWords Go.Proofs.YtkcgghgkmgbphaaW.PrintLast Go.Proofs.YtkcgghgkmgbphaaW.PrintMore
attribute [local go_sem] max2_int min2_int max_two min_two max_three min_three max_four min_four   -- for this text's walks alone
set_option linter.unusedVariables false
set_option linter.unusedSimpArgs false
set_option maxHeartbeats 8000000
set_option maxRecDepth 100000

attribute [local go_sem] cell_setCell_m
/-! ### impl_PduOk: function 24 -/
mutual
def impl_PduOk.j2 : Nat → Int → Int → Int → Int → List (S116) → Option (Bool)
 | 0, _, _, _, _, _ => none
 | k + 1, x343000, x343001, x343002, x343003, x343004 => impl_PduOk.l0 k x343004 (x343004.length : Int) 0 x343000 x343001 x343002 x343003 x343004
def impl_PduOk.l0 : Nat → List (S116) → Int → Int → Int → Int → Int → Int → List (S116) → Option (Bool)
 | 0, _, _, _, _, _, _, _, _ => none
 | k + 1, x33, x34, x35, x343000, x343001, x343002, x343003, x343004 => if x35 < x34 then (if 0 ≤ x35 then (if x35 < (x33.length : Int) then (if x35 ≥ 10 then (some false) else ((impl_OidOk.f k ((rd_T116 x33 x35).f0)).bind fun t348 => (if t348 = true then ((impl_ValOk.f k ((rd_T116 x33 x35).f1.f0) ((rd_T116 x33 x35).f1.f1) ((rd_T116 x33 x35).f1.f2) ((rd_T116 x33 x35).f1.f3)).bind fun t349 => (if t349 = true then (impl_PduOk.l0 k x33 x34 (wrap64 (x35 + 1)) x343000 x343001 x343002 x343003 x343004) else (some false))) else (some false)))) else (none)) else (none)) else ((impl_isInt.f x343001).bind fun t345 => (some t345))
def impl_PduOk.j0 : Nat → Int → Bool → Int → Int → Int → Int → List (S116) → Option (Bool)
 | 0, _, _, _, _, _, _, _ => none
 | k + 1, x6, x7, x343000, x343001, x343002, x343003, x343004 => if x7 = true then (if x343002 = 0 then (if x343003 = 0 then (impl_PduOk.j2 k x343000 x343001 x343002 x343003 x343004) else (some false)) else (some false)) else (if x6 = 162 then (impl_PduOk.j1 k (x6 == 162) x343000 x343001 x343002 x343003 x343004) else (impl_PduOk.j1 k (x6 == 165) x343000 x343001 x343002 x343003 x343004))
def impl_PduOk.j1 : Nat → Bool → Int → Int → Int → Int → List (S116) → Option (Bool)
 | 0, _, _, _, _, _, _ => none
 | k + 1, x19, x343000, x343001, x343002, x343003, x343004 => if x19 = true then ((impl_in.f x343002 0 1000).bind fun t343 => (if t343 = true then ((impl_in.f x343003 0 1000).bind fun t344 => (if t344 = true then (impl_PduOk.j2 k x343000 x343001 x343002 x343003 x343004) else (some false))) else (some false))) else (some false)
end
def impl_PduOk.f (k : Nat) (a0_0 : Int) (a0_1 : Int) (a0_2 : Int) (a0_3 : Int) (l0_4 : List (S116)) : Option (Bool) := if a0_0 = 160 then (impl_PduOk.j0 k a0_0 (a0_0 == 160) a0_0 a0_1 a0_2 a0_3 l0_4) else (if a0_0 = 161 then (impl_PduOk.j0 k a0_0 (a0_0 == 161) a0_0 a0_1 a0_2 a0_3 l0_4) else (impl_PduOk.j0 k a0_0 (a0_0 == 163) a0_0 a0_1 a0_2 a0_3 l0_4))
theorem impl_PduOk.mono_l : ∀ k, (∀ y0 y1 y2 y3 y4, LeO (impl_PduOk.j2 k y0 y1 y2 y3 y4) (impl_PduOk.j2 (k + 1) y0 y1 y2 y3 y4)) ∧ (∀ y0 y1 y2 y3 y4 y5 y6 y7, LeO (impl_PduOk.l0 k y0 y1 y2 y3 y4 y5 y6 y7) (impl_PduOk.l0 (k + 1) y0 y1 y2 y3 y4 y5 y6 y7)) ∧ (∀ y0 y1 y2 y3 y4 y5 y6, LeO (impl_PduOk.j0 k y0 y1 y2 y3 y4 y5 y6) (impl_PduOk.j0 (k + 1) y0 y1 y2 y3 y4 y5 y6)) ∧ (∀ y0 y1 y2 y3 y4 y5, LeO (impl_PduOk.j1 k y0 y1 y2 y3 y4 y5) (impl_PduOk.j1 (k + 1) y0 y1 y2 y3 y4 y5))
 | 0 => ⟨fun _ _ _ _ _ r h => by simp [impl_PduOk.j2] at h, fun _ _ _ _ _ _ _ _ r h => by simp [impl_PduOk.l0] at h, fun _ _ _ _ _ _ _ r h => by simp [impl_PduOk.j0] at h, fun _ _ _ _ _ _ r h => by simp [impl_PduOk.j1] at h⟩
 | k + 1 => by
  obtain ⟨ih0, ih1, ih2, ih3⟩ := impl_PduOk.mono_l k
  refine ⟨?_, ?_, ?_, ?_⟩
  ·intro y0 y1 y2 y3 y4
   unfold impl_PduOk.j2
   have m0_ := @impl_OidOk.mono
   have m1_ := @impl_ValOk.mono
   exact zR
  ·intro y0 y1 y2 y3 y4 y5 y6 y7
   unfold impl_PduOk.l0
   have m0_ := @impl_OidOk.mono
   have m1_ := @impl_ValOk.mono
   exact zR
  ·intro y0 y1 y2 y3 y4 y5 y6
   unfold impl_PduOk.j0
   have m0_ := @impl_OidOk.mono
   have m1_ := @impl_ValOk.mono
   exact zR
  ·intro y0 y1 y2 y3 y4 y5
   unfold impl_PduOk.j1
   have m0_ := @impl_OidOk.mono
   have m1_ := @impl_ValOk.mono
   exact zR
theorem impl_PduOk.mono : ∀ a0 a1 a2 a3 a4 k, LeO (impl_PduOk.f k a0 a1 a2 a3 a4) (impl_PduOk.f (k + 1) a0 a1 a2 a3 a4) := by
 intro a0 a1 a2 a3 a4 k
 obtain ⟨ih0, ih1, ih2, ih3⟩ := impl_PduOk.mono_l k
 unfold impl_PduOk.f
 have m0_ := @impl_OidOk.mono
 have m1_ := @impl_ValOk.mono
 exact zR
theorem impl_PduOk.calls (k : Nat) (a0_0 : Int) (a0_1 : Int) (a0_2 : Int) (a0_3 : Int) (A0_4 : Option Addr) (c0_4 : Nat) (l0_4 : List (S116)) (r : Bool) (w : World) (hr0_4 : Kd.C k116 w A0_4 l0_4.length l0_4) (hc0_4 : l0_4.length ≤ c0_4) (h : impl_PduOk.f k a0_0 a0_1 a0_2 a0_3 l0_4 = some r) :
  Calls Try.prog 24 #[.agg #[.int .i64 a0_0, .int .i64 a0_1, .int .i64 a0_2, .int .i64 a0_3, .slice A0_4 l0_4.length c0_4]] w fun e w' => e = .returned (.bool r) ∧ Below w.heap.size w w' := by
 have hu26 := Try.underlying26
 have hu116 := Try.underlying116
 have hu76 := Try.underlying76
 have HR0_4 := zA hr0_4
 have HC0_4 := zA hc0_4
 clear hr0_4 hc0_4
 have HB := zA (Below.refl w.heap.size w)
 unfold impl_PduOk.f at h
 have H := zA h
 clear h
 go_enter Try.func24, Try.ntmps24
 go_upto_region 0 with fail
 go_upto_region 1 with (first | ((with_reducible refine gate_dst (N := 1) rfl ?_); refine box_event ?hg (N := 1) ?hd (cs := #[.int .i64 a0_0, .int .i64 a0_1, .int .i64 a0_2, .int .i64 a0_3, .slice A0_4 l0_4.length c0_4]) (t := 26) ?hr ?_; (case hd => rfl); (case hg => rfl); (case hr => exact zgs); intro gb342 hg w4 hbox hb; have BK342 := zA (hbox); have GW342 := zA ((zq5 : w.heap.size ≤ gb342)); have GE342 := zA ((zq5 : w.heap.size ≤ gb342)); replace HB := zA (below_step zq0 hb); clear hb hbox hg))
 (try simp only [zvs])
 have hz6 := zc5 BK342.out
 go_upto_block 0 with fail
 go_cut [] (fun wc => ∃ (kq : Nat), Aside0 (impl_PduOk.j2 kq a0_0 a0_1 a0_2 a0_3 l0_4 = some r) ∧ Aside0 (kq ≤ k) ∧ Aside0 (wc.heap[gb342]? = some (.cells #[.int .i64 a0_0, .int .i64 a0_1, .int .i64 a0_2, .int .i64 a0_3, (.slice A0_4 l0_4.length c0_4)] 26 (0, 0))) ∧ Aside0 (Below w.heap.size w wc))
 case first =>
  go_upto_region 3 with fail
  go_upto_if 7 with fail
  go_cut [7] (fun v7 wc => ∃ (kq : Nat) (x7_7 : Bool), v7 = .bool x7_7 ∧ Aside0 (impl_PduOk.j0 kq a0_0 x7_7 a0_0 a0_1 a0_2 a0_3 l0_4 = some r) ∧ Aside0 (kq ≤ k) ∧ Aside0 (wc.heap[gb342]? = some (.cells #[.int .i64 a0_0, .int .i64 a0_1, .int .i64 a0_2, .int .i64 a0_3, (.slice A0_4 l0_4.length c0_4)] 26 (0, 0))) ∧ Aside0 (Below w.heap.size w wc))
  case first =>
   replace H := zP H; rcases H with ⟨c9, H⟩ | ⟨c9, H⟩
   ·have c9b0 : (a0_0 == 160) = true := beq_iff_eq.mpr c9
    have c9b1 : (a0_0 != 160) = false := bne_eq_false_iff_eq.mpr c9
    clear c9
    (first | rw [c9b0] | (simp only [i64_w, i32_w]; rw [c9b0]) | skip)
    have H' := H; clear H
    go_wp2
    go_meet
    case rel => exact ⟨_, ((a0_0 == 160)), zq15, H', ⟨zq120⟩, ⟨(zbk BK342.out)⟩, ⟨zq0⟩⟩
   have c9b0 : (a0_0 == 160) = false := beq_eq_false_iff_ne.mpr c9
   have c9b1 : (a0_0 != 160) = true := bne_iff_ne.mpr c9
   (first | rw [c9b0] | (simp only [i64_w, i32_w]; rw [c9b0]) | skip)
   go_upto_region 4 with fail
   replace H := zP H; rcases H with ⟨c11, H⟩ | ⟨c11, H⟩
   ·have c11b0 : (a0_0 == 161) = true := beq_iff_eq.mpr c11
    have c11b1 : (a0_0 != 161) = false := bne_eq_false_iff_eq.mpr c11
    clear c11
    have H' := H; clear H
    go_wp2
    go_meet
    case rel => exact ⟨_, ((a0_0 == 161)), zq15, H', ⟨zq120⟩, ⟨(zbk BK342.out)⟩, ⟨zq0⟩⟩
   have c11b0 : (a0_0 == 161) = false := beq_eq_false_iff_ne.mpr c11
   have c11b1 : (a0_0 != 161) = true := bne_iff_ne.mpr c11
   go_upto_region 5 with fail
   have H' := H; clear H
   go_wp2
   go_meet
   case rel => exact ⟨_, ((a0_0 == 163)), zq15, H', ⟨zq120⟩, ⟨(zbk BK342.out)⟩, ⟨zq0⟩⟩
  case rest =>
   try clear c1
   try clear c2
   try clear p2
   try clear c9
   try clear c9b0
   try clear c9b1
   try clear c11
   try clear c11b0
   try clear c11b1
   try clear hz6
   obtain ⟨kq, x7_7, rfl, HA, HJ7, BK342, HB⟩ := hcut
   cases kq with
   | zero => exact absurd HA.out (by simp [impl_PduOk.j0])
   | succ kj7 =>
    have H := HA
    clear HA
    simp only [impl_PduOk.j0] at H
    replace H := zE H; rcases H with ⟨rfl, H⟩ | ⟨rfl, H⟩
    ·go_upto_region 6 with fail
     replace H := zP H; rcases H with ⟨c15, H⟩ | ⟨c15, H⟩
     ·have c15b0 : (a0_2 == 0) = true := beq_iff_eq.mpr c15
      have c15b1 : (a0_2 != 0) = false := bne_eq_false_iff_eq.mpr c15
      clear c15
      replace H := zP H; rcases H with ⟨c16, H⟩ | ⟨c16, H⟩
      ·have c16b0 : (a0_3 == 0) = true := beq_iff_eq.mpr c16
       have c16b1 : (a0_3 != 0) = false := bne_eq_false_iff_eq.mpr c16
       clear c16
       have H' := H; clear H
       have hz17 := zc5 BK342.out
       go_wp2
       go_meet
       case rel => exact ⟨_, H', ⟨zq276⟩, ⟨(zbk BK342.out)⟩, ⟨zq0⟩⟩
      have c16b0 : (a0_3 == 0) = false := beq_eq_false_iff_ne.mpr c16
      have c16b1 : (a0_3 != 0) = true := bne_iff_ne.mpr c16
      have hz19 := zc5 BK342.out
      go_upto_region 7 with fail
      obtain rfl := zi H
      go_wp2
      go_ret
      exact ⟨zq1, zq0⟩
     have c15b0 : (a0_2 == 0) = false := beq_eq_false_iff_ne.mpr c15
     have c15b1 : (a0_2 != 0) = true := bne_iff_ne.mpr c15
     have hz21 := zc5 BK342.out
     go_upto_region 7 with fail
     obtain rfl := zi H
     go_wp2
     go_ret
     exact ⟨zq1, zq0⟩
    go_upto_region 8 with fail
    go_upto_if 19 with fail
    go_cut [19] (fun v19 wc => ∃ (kq : Nat) (x19_22 : Bool), v19 = .bool x19_22 ∧ Aside0 (impl_PduOk.j1 kq x19_22 a0_0 a0_1 a0_2 a0_3 l0_4 = some r) ∧ Aside0 (kq ≤ kj7) ∧ Aside0 (wc.heap[gb342]? = some (.cells #[.int .i64 a0_0, .int .i64 a0_1, .int .i64 a0_2, .int .i64 a0_3, (.slice A0_4 l0_4.length c0_4)] 26 (0, 0))) ∧ Aside0 (Below w.heap.size w wc))
    case first =>
     replace H := zP H; rcases H with ⟨c24, H⟩ | ⟨c24, H⟩
     ·have c24b0 : (a0_0 == 162) = true := beq_iff_eq.mpr c24
      have c24b1 : (a0_0 != 162) = false := bne_eq_false_iff_eq.mpr c24
      clear c24
      (first | rw [c24b0] | (simp only [i64_w, i32_w]; rw [c24b0]) | skip)
      have H' := H; clear H
      go_wp2
      go_meet
      case rel => exact ⟨_, ((a0_0 == 162)), zq15, H', ⟨zq276⟩, ⟨(zbk BK342.out)⟩, ⟨zq0⟩⟩
     have c24b0 : (a0_0 == 162) = false := beq_eq_false_iff_ne.mpr c24
     have c24b1 : (a0_0 != 162) = true := bne_iff_ne.mpr c24
     (first | rw [c24b0] | (simp only [i64_w, i32_w]; rw [c24b0]) | skip)
     go_upto_region 9 with fail
     have H' := H; clear H
     go_wp2
     go_meet
     case rel => exact ⟨_, ((a0_0 == 165)), zq15, H', ⟨zq276⟩, ⟨(zbk BK342.out)⟩, ⟨zq0⟩⟩
    case rest =>
     try clear c1
     try clear c2
     try clear p2
     try clear c9
     try clear c9b0
     try clear c9b1
     try clear c11
     try clear c11b0
     try clear c11b1
     try clear c13
     try clear c15
     try clear c15b0
     try clear c15b1
     try clear c16
     try clear c16b0
     try clear c16b1
     try clear c24
     try clear c24b0
     try clear c24b1
     try clear hz17
     try clear hz19
     try clear hz21
     try clear hz6
     try clear p2
     obtain ⟨kq, x19_22, rfl, HA, HJ22, BK342, HB⟩ := hcut
     cases kq with
     | zero => exact absurd HA.out (by simp [impl_PduOk.j1])
     | succ kj22 =>
      have H := HA
      clear HA
      simp only [impl_PduOk.j1] at H
      replace H := zE H; rcases H with ⟨rfl, H⟩ | ⟨rfl, H⟩
      ·go_upto_region 10 with fail
       replace H := zB H; obtain ⟨t343, A28, H⟩ := H
       try dsimp only at H
       replace H := zE H; rcases H with ⟨rfl, H⟩ | ⟨rfl, H⟩
       ·replace H := zB H; obtain ⟨t344, A30, H⟩ := H
        try dsimp only at H
        replace H := zE H; rcases H with ⟨rfl, H⟩ | ⟨rfl, H⟩
        ·have H' := H
         clear H
         have hz32 := zc5 BK342.out
         go_wp2_with (first | ((with_reducible refine zg122 rfl ?_); refine zl122 (some 24) #[.int .i64 a0_2, .int .i64 0, .int .i64 1000] ?_; (with_reducible refine (impl_in.calls a0_2 0 1000 true _ A28.out).mono ?_); rintro e w' ⟨rfl, ⟨nd, rfl⟩⟩; refine ⟨_, rfl, ?_⟩) | (go_at_call 122; (with_reducible refine (impl_in.calls a0_3 0 1000 true _ A30.out).mono ?_); rintro e w' ⟨rfl, ⟨nd, rfl⟩⟩))
         go_meet
         case rel => exact ⟨_, H', ⟨(by have := HJ7.out; have := HJ22.out; first | omega | exact Nat.le_refl _)⟩, ⟨(zbk BK342.out)⟩, ⟨zq0⟩⟩
        have hz34 := zc5 BK342.out
        go_upto_region 11 with (first | ((with_reducible refine zg122 rfl ?_); refine zl122 (some 24) #[.int .i64 a0_2, .int .i64 0, .int .i64 1000] ?_; (with_reducible refine (impl_in.calls a0_2 0 1000 true _ A28.out).mono ?_); rintro e w' ⟨rfl, ⟨nd, rfl⟩⟩; refine ⟨_, rfl, ?_⟩) | (go_at_call 122; (with_reducible refine (impl_in.calls a0_3 0 1000 false _ A30.out).mono ?_); rintro e w' ⟨rfl, ⟨nd, rfl⟩⟩))
        (try simp only [zvs])
        (try (rw [drewN_self wc]; generalize hq_ : World.drewN wc _ = wc; replace BK342 := zA (blk_at hq_ BK342.out); replace HB := zA (below_at hq_ HB.out); clear hq_))
        obtain rfl := zi H
        go_wp2
        go_ret
        exact ⟨zq1, zq0⟩
       have hz36 := zc5 BK342.out
       go_upto_region 11 with (first | ((with_reducible refine zg122 rfl ?_); refine zl122 (some 24) #[.int .i64 a0_2, .int .i64 0, .int .i64 1000] ?_; (with_reducible refine (impl_in.calls a0_2 0 1000 false _ A28.out).mono ?_); rintro e w' ⟨rfl, ⟨nd, rfl⟩⟩; refine ⟨_, rfl, ?_⟩))
       (try simp only [zvs])
       (try (rw [drewN_self wc]; generalize hq_ : World.drewN wc _ = wc; replace BK342 := zA (blk_at hq_ BK342.out); replace HB := zA (below_at hq_ HB.out); clear hq_))
       obtain rfl := zi H
       go_wp2
       go_ret
       exact ⟨zq1, zq0⟩
      go_upto_region 2 with fail
      obtain rfl := zi H
      go_wp2
      go_ret
      exact ⟨zq1, zq0⟩
 case rest =>
  try clear c1
  try clear c2
  try clear p2
  try clear c3
  try clear c9
  try clear c9b0
  try clear c9b1
  try clear c11
  try clear c11b0
  try clear c11b1
  try clear c12
  try clear c13
  try clear c15
  try clear c15b0
  try clear c15b1
  try clear c16
  try clear c16b0
  try clear c16b1
  try clear c24
  try clear c24b0
  try clear c24b1
  try clear c26
  try clear c29
  try clear c31
  try clear hz17
  try clear hz19
  try clear hz21
  try clear hz32
  try clear hz34
  try clear hz36
  try clear hz6
  try clear p2
  obtain ⟨kq, HA, HJ4, BK342, HB⟩ := hcut
  cases kq with
  | zero => exact absurd HA.out (by simp [impl_PduOk.j2])
  | succ kj4 =>
   have H := HA
   clear HA
   simp only [impl_PduOk.j2] at H
   go_upto_region 12 with fail
   have H' := H; clear H
   have hz39 := zc5 BK342.out
   go_wp2
   go_loopg [35] kj4 (fun kq v35 w' => ∃ (x35_2 : Int), v35 = .int .i64 x35_2 ∧ Aside0 (impl_PduOk.l0 kq l0_4 (l0_4.length : Int) x35_2 a0_0 a0_1 a0_2 a0_3 l0_4 = some r) ∧ Aside0 (kq ≤ kj4) ∧ Aside0 (w'.heap[gb342]? = some (.cells #[.int .i64 a0_0, .int .i64 a0_1, .int .i64 a0_2, .int .i64 a0_3, (.slice A0_4 l0_4.length c0_4)] 26 (0, 0))) ∧ Aside0 (Below w.heap.size w w'))
   case atStart => exact ⟨(0), zq15, H', ⟨Nat.le_refl _⟩, ⟨(zbk BK342.out)⟩, ⟨zq0⟩⟩
   case round =>
    clear H'
    try clear c1
    try clear c2
    try clear p2
    try clear c3
    try clear c9
    try clear c9b0
    try clear c9b1
    try clear c11
    try clear c11b0
    try clear c11b1
    try clear c12
    try clear c13
    try clear c15
    try clear c15b0
    try clear c15b1
    try clear c16
    try clear c16b0
    try clear c16b1
    try clear c24
    try clear c24b0
    try clear c24b1
    try clear c26
    try clear c29
    try clear c31
    try clear hz17
    try clear hz19
    try clear hz21
    try clear hz32
    try clear hz34
    try clear hz36
    try clear hz39
    try clear hz6
    try clear p2
    obtain ⟨x35_2, rfl, HA, HK2, BK342, HB⟩ := hrel
    cases gk with
    | zero => exact absurd HA.out (by simp [impl_PduOk.l0])
    | succ k2 =>
     have H := HA
     clear HA
     simp only [impl_PduOk.l0] at H
     go_upto_region 13 with fail
     replace H := zPd H; rcases H with ⟨c41b0, H⟩ | ⟨c41b0, H⟩
     ·go_upto_region 14 with fail
      replace H := zNd H; obtain ⟨c43b0, H⟩ := H
      replace H := zNd H; obtain ⟨c44b0, H⟩ := H
      have p346 : 0 ≤ (x35_2 : Int) := of_decide_eq_true zq13
      have q346 : x35_2 < (l0_4.length : Int) := of_decide_eq_true zq13
      obtain ⟨ad346, A346_0, c346_0, A346_4, c346_4, e346, hx346_0, hx346_1, hx346_2, hx346_3, hx346_4, hl346_0, hi346_0, hl346_4, hi346_4⟩ := at_T116 HR0_4.out x35_2 p346 q346
      cases e346
      replace hx346_0 := zcl HB.out hx346_0
      replace hx346_1 := zcl HB.out hx346_1
      replace hx346_2 := zcl HB.out hx346_2
      replace hx346_3 := zcl HB.out hx346_3
      replace hx346_4 := zcl HB.out hx346_4
      have HR346_0 := zA hi346_0
      have HC346_0 := zA hl346_0
      clear hi346_0 hl346_0
      have HR346_4 := zA hi346_4
      have HC346_4 := zA hl346_4
      clear hi346_4 hl346_4
      replace p346 := eq_true p346
      replace q346 := eq_true q346
      go_upto_region 15 with (first | ((with_reducible refine gate_dst (N := 4) rfl ?_); refine box_event ?hg (N := 4) ?hd (cs := #[.slice none 0 0, .int .i64 0, .int .i64 0, .string (⟨#[]⟩ : ByteArray), .slice none 0 0]) (t := 116) ?hr ?_; (case hd => rfl); (case hg => rfl); (case hr => exact zgs); intro gb347 hg w46 hbox hb; have BK347 := zA (hbox); have GW347 := zA ((zq253 : w.heap.size ≤ gb347)); have GE347 := zA ((zq253 : w.heap.size ≤ gb347)); replace HB := zA (below_step zq0 hb); have NB342_347 := zA ((by rw [hg]; exact Nat.ne_of_lt (blk_lt (g := gb342) (o := .cells #[.int .i64 a0_0, .int .i64 a0_1, .int .i64 a0_2, .int .i64 a0_3, .slice (some ad346) l0_4.length c0_4] 26 (0, 0)) (zbk BK342.out)) : gb342 ≠ gb347)); have NB347_342 := zA ((by rw [hg]; exact Nat.ne_of_gt (blk_lt (g := gb342) (o := .cells #[.int .i64 a0_0, .int .i64 a0_1, .int .i64 a0_2, .int .i64 a0_3, .slice (some ad346) l0_4.length c0_4] 26 (0, 0)) (zbk BK342.out)) : gb347 ≠ gb342)); replace BK342 := zA (zbb BK342.out hb); clear hb hbox hg; have hn47 := zn NB347_342; have hz48 := zc5 BK347.out))
      (try simp only [zvs])
      replace H := zPd H; rcases H with ⟨c49b0, H⟩ | ⟨c49b0, H⟩
      ·go_upto_region 16 with fail
       obtain rfl := zi H
       go_wp2
       go_ret
       exact ⟨zq1, zq0⟩
      replace H := zB H; obtain ⟨t348, A51, H⟩ := H
      try dsimp only at H
      replace H := zE H; rcases H with ⟨rfl, H⟩ | ⟨rfl, H⟩
      ·replace H := zB H; obtain ⟨t349, A53, H⟩ := H
       try dsimp only at H
       replace H := zE H; rcases H with ⟨rfl, H⟩ | ⟨rfl, H⟩
       ·have hn56 := zn NB347_342
        have hz57 := zc5 BK347.out
        go_upto_region 17 with (first | (go_at_call 123; (with_reducible refine (impl_OidOk.calls k2 _ _ ((rd_T116 l0_4 x35_2).f0) true _ ?side1 ?side2 A51.out).mono ?_); (case side1 => exact Kd.C_below HR346_0.out zq0); (case side2 => exact HC346_0.out); rintro e w' ⟨rfl, ⟨nd, rfl⟩⟩) | (go_at_call 90; (with_reducible refine (impl_ValOk.calls k2 ((rd_T116 l0_4 x35_2).f1.f0) ((rd_T116 l0_4 x35_2).f1.f1) ((rd_T116 l0_4 x35_2).f1.f2) _ _ ((rd_T116 l0_4 x35_2).f1.f3) true _ ?side1 ?side2 A53.out).mono ?_); (case side1 => exact Kd.C_below HR346_4.out zq0); (case side2 => exact HC346_4.out); rintro e w58 ⟨rfl, hb⟩; replace BK342 := zA (blk_below (g := gb342) (o := .cells #[.int .i64 a0_0, .int .i64 a0_1, .int .i64 a0_2, .int .i64 a0_3, .slice (some ad346) l0_4.length c0_4] 26 (0, 0)) (zbf BK342.out) hb); replace BK347 := zA (blk_below (g := gb347) (o := .cells #[.slice A346_0 ((rd_T116 l0_4 x35_2).f0).length c346_0, .int .i64 ((rd_T116 l0_4 x35_2).f1.f0), .int .i64 ((rd_T116 l0_4 x35_2).f1.f1), .string ((rd_T116 l0_4 x35_2).f1.f2), .slice A346_4 ((rd_T116 l0_4 x35_2).f1.f3).length c346_4] 116 (0, 0)) (zbp BK347.out) hb); replace HB := zA (below_step zq0 hb); clear hb))
        (try simp only [zvs])
        (try (rw [drewN_self w58]; generalize hq_ : World.drewN w58 _ = w58; replace BK342 := zA (blk_at hq_ BK342.out); replace BK347 := zA (blk_at hq_ BK347.out); replace HB := zA (below_at hq_ HB.out); clear hq_))
        have H' := H; clear H
        go_wp2
        go_roundg k2
        case measure => have := HJ4.out; have := HK2.out; omega
        case rel => exact ⟨(wrap64 (x35_2 + 1)), zq15, H', ⟨(by have := HJ4.out; have := HK2.out; omega)⟩, ⟨(zbk BK342.out)⟩, ⟨zq0⟩⟩
       have hn60 := zn NB347_342
       have hz61 := zc5 BK347.out
       go_upto_region 16 with (first | (go_at_call 123; (with_reducible refine (impl_OidOk.calls k2 _ _ ((rd_T116 l0_4 x35_2).f0) true _ ?side1 ?side2 A51.out).mono ?_); (case side1 => exact Kd.C_below HR346_0.out zq0); (case side2 => exact HC346_0.out); rintro e w' ⟨rfl, ⟨nd, rfl⟩⟩) | (go_at_call 90; (with_reducible refine (impl_ValOk.calls k2 ((rd_T116 l0_4 x35_2).f1.f0) ((rd_T116 l0_4 x35_2).f1.f1) ((rd_T116 l0_4 x35_2).f1.f2) _ _ ((rd_T116 l0_4 x35_2).f1.f3) false _ ?side1 ?side2 A53.out).mono ?_); (case side1 => exact Kd.C_below HR346_4.out zq0); (case side2 => exact HC346_4.out); rintro e w62 ⟨rfl, hb⟩; replace BK342 := zA (blk_below (g := gb342) (o := .cells #[.int .i64 a0_0, .int .i64 a0_1, .int .i64 a0_2, .int .i64 a0_3, .slice (some ad346) l0_4.length c0_4] 26 (0, 0)) (zbf BK342.out) hb); replace BK347 := zA (blk_below (g := gb347) (o := .cells #[.slice A346_0 ((rd_T116 l0_4 x35_2).f0).length c346_0, .int .i64 ((rd_T116 l0_4 x35_2).f1.f0), .int .i64 ((rd_T116 l0_4 x35_2).f1.f1), .string ((rd_T116 l0_4 x35_2).f1.f2), .slice A346_4 ((rd_T116 l0_4 x35_2).f1.f3).length c346_4] 116 (0, 0)) (zbp BK347.out) hb); replace HB := zA (below_step zq0 hb); clear hb))
       (try simp only [zvs])
       (try (rw [drewN_self w62]; generalize hq_ : World.drewN w62 _ = w62; replace BK342 := zA (blk_at hq_ BK342.out); replace BK347 := zA (blk_at hq_ BK347.out); replace HB := zA (below_at hq_ HB.out); clear hq_))
       obtain rfl := zi H
       go_wp2
       go_ret
       exact ⟨zq1, zq0⟩
      have hn64 := zn NB347_342
      have hz65 := zc5 BK347.out
      go_upto_region 16 with (first | (go_at_call 123; (with_reducible refine (impl_OidOk.calls k2 _ _ ((rd_T116 l0_4 x35_2).f0) false _ ?side1 ?side2 A51.out).mono ?_); (case side1 => exact Kd.C_below HR346_0.out zq0); (case side2 => exact HC346_0.out); rintro e w' ⟨rfl, ⟨nd, rfl⟩⟩))
      (try simp only [zvs])
      obtain rfl := zi H
      go_wp2
      go_ret
      exact ⟨zq1, zq0⟩
     go_upto_region 18 with fail
     replace H := zB H; obtain ⟨t345, A67, H⟩ := H
     try dsimp only at H
     obtain rfl := zi H
     have hz68 := zc5 BK342.out
     go_wp2_with (first | ((with_reducible refine zg124 rfl ?_); refine zl124 (some 57) #[.int .i64 a0_1] ?_; (with_reducible refine (impl_isInt.calls a0_1 t345 _ A67.out).mono ?_); rintro e w' ⟨rfl, ⟨nd, rfl⟩⟩; refine ⟨_, rfl, ?_⟩))
     go_ret
     exact ⟨zq1, zq0⟩

end Go.Proofs.Ytkcgghgkmgbphaa.PFnMsgs
