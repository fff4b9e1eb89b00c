-- WRITTEN BY a turned copy of the kit's printer (wip/patch_print.py), for this claim
import Derived.Test.YtkcgghgkmgbphaaPFnMsgsx0
import Derived.Test.YtkcgghgkmgbphaaPFnMsgsx3
import Derived.Test.YtkcgghgkmgbphaaPFnMsgsx4
namespace Go.Proofs.Ytkcgghgkmgbphaa.PFnMsgs
open Go.RowKit Go.Proofs.YtkcgghgkmgbphaaW.PrintWords Go.Proofs.YtkcgghgkmgbphaaW.PrintLast Go.Proofs.YtkcgghgkmgbphaaW.PrintMore
attribute [local go_sem] max2_int min2_int max_two min_two max_three min_three max_four min_four   -- for this text's walks alone
set_option linter.unusedVariables false
set_option linter.unusedSimpArgs false
set_option maxHeartbeats 8000000
set_option maxRecDepth 100000

attribute [local go_sem] cell_setCell_m
/-! ### spec_PduOk: function 121 -/
mutual
def spec_PduOk.l0 : Nat → Int → Int → Int → Int → Int → List (S116) → Option (Bool)
 | 0, _, _, _, _, _, _ => none
 | k + 1, x3, x124000, x124001, x124002, x124003, x124004 => if x3 < (x124004.length : Int) then (if 0 ≤ x3 then ((spec_OidOk.f k ((rd_T116 x124004 x3).f0)).bind fun t125 => (if t125 = true then ((spec_ValOk.f k ((rd_T116 x124004 x3).f1.f0) ((rd_T116 x124004 x3).f1.f1) ((rd_T116 x124004 x3).f1.f2) ((rd_T116 x124004 x3).f1.f3)).bind fun t127 => (if t127 = true then (spec_PduOk.l0 k (wrap64 (x3 + 1)) x124000 x124001 x124002 x124003 x124004) else (some false))) else (some false))) else (none)) else (if x124000 = 162 then (spec_PduOk.j1 k false x124000 x124001 x124002 x124003 x124004) else (if x124000 = 165 then (spec_PduOk.j1 k false x124000 x124001 x124002 x124003 x124004) else (if x124002 = 0 then (spec_PduOk.j1 k (x124003 != 0) x124000 x124001 x124002 x124003 x124004) else (spec_PduOk.j1 k true x124000 x124001 x124002 x124003 x124004))))
def spec_PduOk.j1 : Nat → Bool → Int → Int → Int → Int → List (S116) → Option (Bool)
 | 0, _, _, _, _, _, _ => none
 | k + 1, x46, x124000, x124001, x124002, x124003, x124004 => if x46 = true then (some false) else ((spec_l4Kind.f x124000).bind fun t128 => (if t128 = true then ((spec_l1Clip.f x124001).bind fun t129 => (if t129 = x124001 then ((spec_l1In.f x124002 0 1000).bind fun t130 => (if t130 = true then ((spec_l1In.f x124003 0 1000).bind fun t131 => (if t131 = true then (some (decide ((x124004.length : Int) ≤ 10))) else (some false))) else (some false))) else (some false))) else (some false)))
end
def spec_PduOk.f (k : Nat) (a0_0 : Int) (a0_1 : Int) (a0_2 : Int) (a0_3 : Int) (l0_4 : List (S116)) : Option (Bool) := spec_PduOk.l0 k 0 a0_0 a0_1 a0_2 a0_3 l0_4
theorem spec_PduOk.mono_l : ∀ k, (∀ y0 y1 y2 y3 y4 y5, LeO (spec_PduOk.l0 k y0 y1 y2 y3 y4 y5) (spec_PduOk.l0 (k + 1) y0 y1 y2 y3 y4 y5)) ∧ (∀ y0 y1 y2 y3 y4 y5, LeO (spec_PduOk.j1 k y0 y1 y2 y3 y4 y5) (spec_PduOk.j1 (k + 1) y0 y1 y2 y3 y4 y5))
 | 0 => ⟨fun _ _ _ _ _ _ r h => by simp [spec_PduOk.l0] at h, fun _ _ _ _ _ _ r h => by simp [spec_PduOk.j1] at h⟩
 | k + 1 => by
  obtain ⟨ih0, ih1⟩ := spec_PduOk.mono_l k
  refine ⟨?_, ?_⟩
  ·intro y0 y1 y2 y3 y4 y5
   unfold spec_PduOk.l0
   have m0_ := @spec_OidOk.mono
   have m1_ := @spec_ValOk.mono
   exact zR
  ·intro y0 y1 y2 y3 y4 y5
   unfold spec_PduOk.j1
   have m0_ := @spec_OidOk.mono
   have m1_ := @spec_ValOk.mono
   exact zR
theorem spec_PduOk.mono : ∀ a0 a1 a2 a3 a4 k, LeO (spec_PduOk.f k a0 a1 a2 a3 a4) (spec_PduOk.f (k + 1) a0 a1 a2 a3 a4) := by
 intro a0 a1 a2 a3 a4 k
 obtain ⟨ih0, ih1⟩ := spec_PduOk.mono_l k
 unfold spec_PduOk.f
 have m0_ := @spec_OidOk.mono
 have m1_ := @spec_ValOk.mono
 exact zR
theorem spec_PduOk.calls (k : Nat) (a0_0 : Int) (a0_1 : Int) (a0_2 : Int) (a0_3 : Int) (A0_4 : Option Addr) (c0_4 : Nat) (l0_4 : List (S116)) (r : Bool) (w : World) (hr0_4 : Kd.C k116 w A0_4 l0_4.length l0_4) (hc0_4 : l0_4.length ≤ c0_4) (h : spec_PduOk.f k a0_0 a0_1 a0_2 a0_3 l0_4 = some r) :
  Calls Try.prog 121 #[.agg #[.int .i64 a0_0, .int .i64 a0_1, .int .i64 a0_2, .int .i64 a0_3, .slice A0_4 l0_4.length c0_4]] w fun e w' => e = .returned (.bool r) ∧ Below w.heap.size w w' := by
 have hu26 := Try.underlying26
 have hu76 := Try.underlying76
 have HR0_4 := zA hr0_4
 have HC0_4 := zA hc0_4
 clear hr0_4 hc0_4
 have HB := zA (Below.refl w.heap.size w)
 unfold spec_PduOk.f at h
 have H := zA h
 clear h
 go_enter Try.func121, Try.ntmps121
 go_upto_region 0 with fail
 go_upto_region 1 with (first | ((with_reducible refine gate_dst (N := 1) rfl ?_); (try (refine gate_guard zq94 ?_; dsimp only)); refine box_event ?hg (N := 1) ?hd (cs := #[.int .i64 a0_0, .int .i64 a0_1, .int .i64 a0_2, .int .i64 a0_3, .slice A0_4 l0_4.length c0_4]) (t := 26) ?hr ?_; (case hd => rfl); (case hg => rfl); (case hr => exact zgs); intro gb123 hg w4 hbox hb; have BK123 := zA (hbox); have GW123 := zA ((zq5 : w.heap.size ≤ gb123)); have GE123 := zA ((zq5 : w.heap.size ≤ gb123)); replace HB := zA (below_step zq0 hb); clear hb hbox hg))
 (try simp only [zvs])
 have H' := H; clear H
 go_wp2
 go_loopg [3] k (fun kq v3 w' => ∃ (x3_1 : Int), v3 = .int .i64 x3_1 ∧ Aside0 (spec_PduOk.l0 kq x3_1 a0_0 a0_1 a0_2 a0_3 l0_4 = some r) ∧ Aside0 (kq ≤ k) ∧ Aside0 (w'.heap[gb123]? = some (.cells #[.int .i64 a0_0, .int .i64 a0_1, .int .i64 a0_2, .int .i64 a0_3, (.slice A0_4 l0_4.length c0_4)] 26 (0, 0))) ∧ Aside0 (Below w.heap.size w w'))
 case atStart => exact ⟨(0), zq15, H', ⟨Nat.le_refl _⟩, ⟨(zbk BK123.out)⟩, ⟨zq0⟩⟩
 case round =>
  clear H'
  try clear c1
  try clear p2
  obtain ⟨x3_1, rfl, HA, HK1, BK123, HB⟩ := hrel
  cases gk with
  | zero => exact absurd HA.out (by simp [spec_PduOk.l0])
  | succ k1 =>
   have H := HA
   clear HA
   simp only [spec_PduOk.l0] at H
   go_upto_region 2 with fail
   replace H := zPd H; rcases H with ⟨c6b0, H⟩ | ⟨c6b0, H⟩
   ·have hz8 := zc5 BK123.out
    go_upto_region 4 with fail
    replace H := zNd H; obtain ⟨c9b0, H⟩ := H
    replace H := zB H; obtain ⟨t125, A10, H⟩ := H
    try dsimp only at H
    replace H := zE H; rcases H with ⟨rfl, H⟩ | ⟨rfl, H⟩
    ·replace H := zB H; obtain ⟨t127, A12, H⟩ := H
     try dsimp only at H
     replace H := zE H; rcases H with ⟨rfl, H⟩ | ⟨rfl, H⟩
     ·have hz15 := zc5 BK123.out
      have p124 : 0 ≤ (x3_1 : Int) := of_decide_eq_true zq13
      have q124 : x3_1 < (l0_4.length : Int) := of_decide_eq_true zq13
      obtain ⟨ad124, A124_0, c124_0, A124_4, c124_4, e124, hx124_0, hx124_1, hx124_2, hx124_3, hx124_4, hl124_0, hi124_0, hl124_4, hi124_4⟩ := at_T116 HR0_4.out x3_1 p124 q124
      cases e124
      replace hx124_0 := zcl HB.out hx124_0
      replace hx124_1 := zcl HB.out hx124_1
      replace hx124_2 := zcl HB.out hx124_2
      replace hx124_3 := zcl HB.out hx124_3
      replace hx124_4 := zcl HB.out hx124_4
      have HR124_0 := zA hi124_0
      have HC124_0 := zA hl124_0
      clear hi124_0 hl124_0
      have HR124_4 := zA hi124_4
      have HC124_4 := zA hl124_4
      clear hi124_4 hl124_4
      replace p124 := eq_true p124
      replace q124 := eq_true q124
      go_upto_region 3 with (first | (go_at_call 175; (with_reducible refine (spec_OidOk.calls k1 _ _ ((rd_T116 l0_4 x3_1).f0) true _ ?side1 ?side2 A10.out).mono ?_); (case side1 => exact zq80); (case side2 => exact HC124_0.out); rintro e w' ⟨rfl, ⟨nd, rfl⟩⟩; (try exact zdd); have p126 : 0 ≤ (x3_1 : Int) := of_decide_eq_true zq13; have q126 : x3_1 < (l0_4.length : Int) := of_decide_eq_true zq13; obtain ⟨ad126, A126_0, c126_0, A126_4, c126_4, e126, hx126_0, hx126_1, hx126_2, hx126_3, hx126_4, hl126_0, hi126_0, hl126_4, hi126_4⟩ := at_T116 HR0_4.out x3_1 p126 q126; obtain rfl : ad124 = ad126 := (by injection e126); replace hx126_0 := zcl HB.out hx126_0; replace hx126_1 := zcl HB.out hx126_1; replace hx126_2 := zcl HB.out hx126_2; replace hx126_3 := zcl HB.out hx126_3; replace hx126_4 := zcl HB.out hx126_4; have HR126_0 := zA hi126_0; have HC126_0 := zA hl126_0; clear hi126_0 hl126_0; have HR126_4 := zA hi126_4; have HC126_4 := zA hl126_4; clear hi126_4 hl126_4; replace p126 := eq_true p126; replace q126 := eq_true q126; have ea_ := Option.some.inj (hx124_0.symm.trans hx126_0); injection ea_ with ea_ en_ ec_; subst ea_; subst ec_; clear en_; have ea_ := Option.some.inj (hx124_4.symm.trans hx126_4); injection ea_ with ea_ en_ ec_; subst ea_; subst ec_; clear en_) | (go_at_call 91; (with_reducible refine (spec_ValOk.calls k1 ((rd_T116 l0_4 x3_1).f1.f0) ((rd_T116 l0_4 x3_1).f1.f1) ((rd_T116 l0_4 x3_1).f1.f2) _ _ ((rd_T116 l0_4 x3_1).f1.f3) true _ ?side1 ?side2 A12.out).mono ?_); (case side1 => exact zq68); (case side2 => exact HC126_4.out); rintro e w16 ⟨rfl, hb⟩; replace BK123 := zA (zbb BK123.out hb); replace HB := zA (below_step zq0 hb); clear hb))
      (try simp only [zvs])
      (try (rw [drewN_self w16]; generalize hq_ : World.drewN w16 _ = w16; replace BK123 := zA (blk_at hq_ BK123.out); replace HB := zA (below_at hq_ HB.out); clear hq_))
      have H' := H; clear H
      go_wp2
      go_roundg k1
      case measure => have := HK1.out; omega
      case rel => exact ⟨(wrap64 (x3_1 + 1)), zq15, H', ⟨zq182⟩, ⟨(zbk BK123.out)⟩, ⟨zq0⟩⟩
     have hz18 := zc5 BK123.out
     have p124 : 0 ≤ (x3_1 : Int) := of_decide_eq_true zq13
     have q124 : x3_1 < (l0_4.length : Int) := of_decide_eq_true zq13
     obtain ⟨ad124, A124_0, c124_0, A124_4, c124_4, e124, hx124_0, hx124_1, hx124_2, hx124_3, hx124_4, hl124_0, hi124_0, hl124_4, hi124_4⟩ := at_T116 HR0_4.out x3_1 p124 q124
     cases e124
     replace hx124_0 := zcl HB.out hx124_0
     replace hx124_1 := zcl HB.out hx124_1
     replace hx124_2 := zcl HB.out hx124_2
     replace hx124_3 := zcl HB.out hx124_3
     replace hx124_4 := zcl HB.out hx124_4
     have HR124_0 := zA hi124_0
     have HC124_0 := zA hl124_0
     clear hi124_0 hl124_0
     have HR124_4 := zA hi124_4
     have HC124_4 := zA hl124_4
     clear hi124_4 hl124_4
     replace p124 := eq_true p124
     replace q124 := eq_true q124
     go_upto_region 5 with (first | (go_at_call 175; (with_reducible refine (spec_OidOk.calls k1 _ _ ((rd_T116 l0_4 x3_1).f0) true _ ?side1 ?side2 A10.out).mono ?_); (case side1 => exact zq80); (case side2 => exact HC124_0.out); rintro e w' ⟨rfl, ⟨nd, rfl⟩⟩; (try exact zdd); have p126 : 0 ≤ (x3_1 : Int) := of_decide_eq_true zq13; have q126 : x3_1 < (l0_4.length : Int) := of_decide_eq_true zq13; obtain ⟨ad126, A126_0, c126_0, A126_4, c126_4, e126, hx126_0, hx126_1, hx126_2, hx126_3, hx126_4, hl126_0, hi126_0, hl126_4, hi126_4⟩ := at_T116 HR0_4.out x3_1 p126 q126; obtain rfl : ad124 = ad126 := (by injection e126); replace hx126_0 := zcl HB.out hx126_0; replace hx126_1 := zcl HB.out hx126_1; replace hx126_2 := zcl HB.out hx126_2; replace hx126_3 := zcl HB.out hx126_3; replace hx126_4 := zcl HB.out hx126_4; have HR126_0 := zA hi126_0; have HC126_0 := zA hl126_0; clear hi126_0 hl126_0; have HR126_4 := zA hi126_4; have HC126_4 := zA hl126_4; clear hi126_4 hl126_4; replace p126 := eq_true p126; replace q126 := eq_true q126; have ea_ := Option.some.inj (hx124_0.symm.trans hx126_0); injection ea_ with ea_ en_ ec_; subst ea_; subst ec_; clear en_; have ea_ := Option.some.inj (hx124_4.symm.trans hx126_4); injection ea_ with ea_ en_ ec_; subst ea_; subst ec_; clear en_) | (go_at_call 91; (with_reducible refine (spec_ValOk.calls k1 ((rd_T116 l0_4 x3_1).f1.f0) ((rd_T116 l0_4 x3_1).f1.f1) ((rd_T116 l0_4 x3_1).f1.f2) _ _ ((rd_T116 l0_4 x3_1).f1.f3) false _ ?side1 ?side2 A12.out).mono ?_); (case side1 => exact zq68); (case side2 => exact HC126_4.out); rintro e w19 ⟨rfl, hb⟩; replace BK123 := zA (zbb BK123.out hb); replace HB := zA (below_step zq0 hb); clear hb))
     (try simp only [zvs])
     (try (rw [drewN_self w19]; generalize hq_ : World.drewN w19 _ = w19; replace BK123 := zA (blk_at hq_ BK123.out); replace HB := zA (below_at hq_ HB.out); clear hq_))
     obtain rfl := zi H
     go_wp2
     go_ret
     exact ⟨zq1, zq0⟩
    have hz21 := zc5 BK123.out
    have p124 : 0 ≤ (x3_1 : Int) := of_decide_eq_true zq13
    have q124 : x3_1 < (l0_4.length : Int) := of_decide_eq_true zq13
    obtain ⟨ad124, A124_0, c124_0, A124_4, c124_4, e124, hx124_0, hx124_1, hx124_2, hx124_3, hx124_4, hl124_0, hi124_0, hl124_4, hi124_4⟩ := at_T116 HR0_4.out x3_1 p124 q124
    cases e124
    replace hx124_0 := zcl HB.out hx124_0
    replace hx124_1 := zcl HB.out hx124_1
    replace hx124_2 := zcl HB.out hx124_2
    replace hx124_3 := zcl HB.out hx124_3
    replace hx124_4 := zcl HB.out hx124_4
    have HR124_0 := zA hi124_0
    have HC124_0 := zA hl124_0
    clear hi124_0 hl124_0
    have HR124_4 := zA hi124_4
    have HC124_4 := zA hl124_4
    clear hi124_4 hl124_4
    replace p124 := eq_true p124
    replace q124 := eq_true q124
    go_upto_region 5 with (first | (go_at_call 175; (with_reducible refine (spec_OidOk.calls k1 _ _ ((rd_T116 l0_4 x3_1).f0) false _ ?side1 ?side2 A10.out).mono ?_); (case side1 => exact zq80); (case side2 => exact HC124_0.out); rintro e w' ⟨rfl, ⟨nd, rfl⟩⟩; (try exact zdd)))
    (try simp only [zvs])
    (try (rw [drewN_self wr]; generalize hq_ : World.drewN wr _ = wr; replace BK123 := zA (blk_at hq_ BK123.out); replace HB := zA (below_at hq_ HB.out); clear hq_))
    obtain rfl := zi H
    go_wp2
    go_ret
    exact ⟨zq1, zq0⟩
   have hz23 := zc5 BK123.out
   go_upto_region 6 with fail
   go_upto_region 6 with fail
   go_cut [46] (fun v46 wc => ∃ (kq : Nat) (x46_23 : Bool), v46 = .bool x46_23 ∧ Aside0 (spec_PduOk.j1 kq x46_23 a0_0 a0_1 a0_2 a0_3 l0_4 = some r) ∧ Aside0 (kq ≤ k1) ∧ Aside0 (wc.heap[gb123]? = some (.cells #[.int .i64 a0_0, .int .i64 a0_1, .int .i64 a0_2, .int .i64 a0_3, (.slice A0_4 l0_4.length c0_4)] 26 (0, 0))) ∧ Aside0 (Below w.heap.size w wc))
   case first =>
    replace H := zP H; rcases H with ⟨c25, H⟩ | ⟨c25, H⟩
    ·have c25b0 : (a0_0 == 162) = true := beq_iff_eq.mpr c25
     have c25b1 : (a0_0 != 162) = false := bne_eq_false_iff_eq.mpr c25
     clear c25
     (first | rw [c25b0] | (simp only [i64_w, i32_w]; rw [c25b0]) | skip)
     have H' := H; clear H
     have hz26 := zc5 BK123.out
     go_wp2
     go_meet
     case rel => exact ⟨_, (false), zq15, H', ⟨zq222⟩, ⟨(zbk BK123.out)⟩, ⟨zq0⟩⟩
    have c25b0 : (a0_0 == 162) = false := beq_eq_false_iff_ne.mpr c25
    have c25b1 : (a0_0 != 162) = true := bne_iff_ne.mpr c25
    (first | rw [c25b0] | (simp only [i64_w, i32_w]; rw [c25b0]) | skip)
    replace H := zP H; rcases H with ⟨c27, H⟩ | ⟨c27, H⟩
    ·have c27b0 : (a0_0 == 165) = true := beq_iff_eq.mpr c27
     have c27b1 : (a0_0 != 165) = false := bne_eq_false_iff_eq.mpr c27
     clear c27
     have H' := H; clear H
     have hz28 := zc5 BK123.out
     go_wp2
     go_meet
     case rel => exact ⟨_, (false), zq15, H', ⟨zq222⟩, ⟨(zbk BK123.out)⟩, ⟨zq0⟩⟩
    have c27b0 : (a0_0 == 165) = false := beq_eq_false_iff_ne.mpr c27
    have c27b1 : (a0_0 != 165) = true := bne_iff_ne.mpr c27
    replace H := zP H; rcases H with ⟨c29, H⟩ | ⟨c29, H⟩
    ·have c29b0 : (a0_2 == 0) = true := beq_iff_eq.mpr c29
     have c29b1 : (a0_2 != 0) = false := bne_eq_false_iff_eq.mpr c29
     clear c29
     have H' := H; clear H
     have hz30 := zc5 BK123.out
     go_wp2
     go_meet
     case rel => exact ⟨_, ((a0_3 != 0)), zq15, H', ⟨zq222⟩, ⟨(zbk BK123.out)⟩, ⟨zq0⟩⟩
    have c29b0 : (a0_2 == 0) = false := beq_eq_false_iff_ne.mpr c29
    have c29b1 : (a0_2 != 0) = true := bne_iff_ne.mpr c29
    have H' := H; clear H
    have hz31 := zc5 BK123.out
    go_wp2
    go_meet
    case rel => exact ⟨_, (true), zq15, H', ⟨zq222⟩, ⟨(zbk BK123.out)⟩, ⟨zq0⟩⟩
   case rest =>
    try clear c1
    try clear p1
    try clear q1
    try clear hx1
    try clear c2
    try clear p2
    try clear c6
    try clear c6b0
    try clear p6
    try clear c9
    try clear c9b0
    try clear c11
    try clear c12
    try clear p12
    try clear q12
    try clear hx12
    try clear c13
    try clear c25
    try clear c25b0
    try clear c25b1
    try clear c27
    try clear c27b0
    try clear c27b1
    try clear c29
    try clear c29b0
    try clear c29b1
    try clear hz15
    try clear hz18
    try clear hz21
    try clear hz23
    try clear hz26
    try clear hz28
    try clear hz30
    try clear hz31
    try clear hz8
    try clear hx124_0
    try clear hx124_1
    try clear hx124_2
    try clear hx124_3
    try clear hx124_4
    try clear hx126_0
    try clear hx126_1
    try clear hx126_2
    try clear hx126_3
    try clear hx126_4
    try clear p124
    try clear p126
    try clear p2
    try clear q124
    try clear q126
    obtain ⟨kq, x46_23, rfl, HA, HJ23, BK123, HB⟩ := hcut
    cases kq with
    | zero => exact absurd HA.out (by simp [spec_PduOk.j1])
    | succ kj23 =>
     have H := HA
     clear HA
     simp only [spec_PduOk.j1] at H
     replace H := zE H; rcases H with ⟨rfl, H⟩ | ⟨rfl, H⟩
     ·go_upto_region 7 with fail
      obtain rfl := zi H
      go_wp2
      go_ret
      exact ⟨zq1, zq0⟩
     go_upto_region 8 with fail
     replace H := zB H; obtain ⟨t128, A35, H⟩ := H
     try dsimp only at H
     replace H := zE H; rcases H with ⟨rfl, H⟩ | ⟨rfl, H⟩
     ·replace H := zB H; obtain ⟨t129, A37, H⟩ := H
      try dsimp only at H
      replace H := zP H; rcases H with ⟨c38, H⟩ | ⟨c38, H⟩
      ·have c38b0 : (t129 == a0_1) = true := beq_iff_eq.mpr c38
       have c38b1 : (t129 != a0_1) = false := bne_eq_false_iff_eq.mpr c38
       clear c38
       replace H := zB H; obtain ⟨t130, A39, H⟩ := H
       try dsimp only at H
       replace H := zE H; rcases H with ⟨rfl, H⟩ | ⟨rfl, H⟩
       ·replace H := zB H; obtain ⟨t131, A41, H⟩ := H
        try dsimp only at H
        replace H := zE H; rcases H with ⟨rfl, H⟩ | ⟨rfl, H⟩
        ·obtain rfl := zi H
         have hz43 := zc5 BK123.out
         iterate 2 (go_wp2_with (first | (go_at_call 182; (with_reducible refine (spec_l4Kind.calls a0_0 true _ A35.out).mono ?_); rintro e w' ⟨rfl, ⟨nd, rfl⟩⟩; (try exact zdd)) | (go_at_call 174; (with_reducible refine (spec_l1Clip.calls a0_1 t129 _ A37.out).mono ?_); rintro e w' ⟨rfl, ⟨nd, rfl⟩⟩; (try exact zdd)) | (go_at_call 150; (with_reducible refine (spec_l1In.calls a0_2 0 1000 true _ A39.out).mono ?_); rintro e w' ⟨rfl, ⟨nd, rfl⟩⟩; (try exact zdd)) | (go_at_call 150; (with_reducible refine (spec_l1In.calls a0_3 0 1000 true _ A41.out).mono ?_); rintro e w' ⟨rfl, ⟨nd, rfl⟩⟩; (try exact zdd))); try go_quiet (first | (go_at_call 182; (with_reducible refine (spec_l4Kind.calls a0_0 true _ A35.out).mono ?_); rintro e w' ⟨rfl, ⟨nd, rfl⟩⟩; (try exact zdd)) | (go_at_call 174; (with_reducible refine (spec_l1Clip.calls a0_1 t129 _ A37.out).mono ?_); rintro e w' ⟨rfl, ⟨nd, rfl⟩⟩; (try exact zdd)) | (go_at_call 150; (with_reducible refine (spec_l1In.calls a0_2 0 1000 true _ A39.out).mono ?_); rintro e w' ⟨rfl, ⟨nd, rfl⟩⟩; (try exact zdd)) | (go_at_call 150; (with_reducible refine (spec_l1In.calls a0_3 0 1000 true _ A41.out).mono ?_); rintro e w' ⟨rfl, ⟨nd, rfl⟩⟩; (try exact zdd))))
         go_ret
         exact ⟨zq1, zq0⟩
        obtain rfl := zi H
        have hz44 := zc5 BK123.out
        iterate 2 (go_wp2_with (first | (go_at_call 182; (with_reducible refine (spec_l4Kind.calls a0_0 true _ A35.out).mono ?_); rintro e w' ⟨rfl, ⟨nd, rfl⟩⟩; (try exact zdd)) | (go_at_call 174; (with_reducible refine (spec_l1Clip.calls a0_1 t129 _ A37.out).mono ?_); rintro e w' ⟨rfl, ⟨nd, rfl⟩⟩; (try exact zdd)) | (go_at_call 150; (with_reducible refine (spec_l1In.calls a0_2 0 1000 true _ A39.out).mono ?_); rintro e w' ⟨rfl, ⟨nd, rfl⟩⟩; (try exact zdd)) | (go_at_call 150; (with_reducible refine (spec_l1In.calls a0_3 0 1000 false _ A41.out).mono ?_); rintro e w' ⟨rfl, ⟨nd, rfl⟩⟩; (try exact zdd))); try go_quiet (first | (go_at_call 182; (with_reducible refine (spec_l4Kind.calls a0_0 true _ A35.out).mono ?_); rintro e w' ⟨rfl, ⟨nd, rfl⟩⟩; (try exact zdd)) | (go_at_call 174; (with_reducible refine (spec_l1Clip.calls a0_1 t129 _ A37.out).mono ?_); rintro e w' ⟨rfl, ⟨nd, rfl⟩⟩; (try exact zdd)) | (go_at_call 150; (with_reducible refine (spec_l1In.calls a0_2 0 1000 true _ A39.out).mono ?_); rintro e w' ⟨rfl, ⟨nd, rfl⟩⟩; (try exact zdd)) | (go_at_call 150; (with_reducible refine (spec_l1In.calls a0_3 0 1000 false _ A41.out).mono ?_); rintro e w' ⟨rfl, ⟨nd, rfl⟩⟩; (try exact zdd))))
        go_ret
        exact ⟨zq1, zq0⟩
       obtain rfl := zi H
       have hz45 := zc5 BK123.out
       iterate 2 (go_wp2_with (first | (go_at_call 182; (with_reducible refine (spec_l4Kind.calls a0_0 true _ A35.out).mono ?_); rintro e w' ⟨rfl, ⟨nd, rfl⟩⟩; (try exact zdd)) | (go_at_call 174; (with_reducible refine (spec_l1Clip.calls a0_1 t129 _ A37.out).mono ?_); rintro e w' ⟨rfl, ⟨nd, rfl⟩⟩; (try exact zdd)) | (go_at_call 150; (with_reducible refine (spec_l1In.calls a0_2 0 1000 false _ A39.out).mono ?_); rintro e w' ⟨rfl, ⟨nd, rfl⟩⟩; (try exact zdd))); try go_quiet (first | (go_at_call 182; (with_reducible refine (spec_l4Kind.calls a0_0 true _ A35.out).mono ?_); rintro e w' ⟨rfl, ⟨nd, rfl⟩⟩; (try exact zdd)) | (go_at_call 174; (with_reducible refine (spec_l1Clip.calls a0_1 t129 _ A37.out).mono ?_); rintro e w' ⟨rfl, ⟨nd, rfl⟩⟩; (try exact zdd)) | (go_at_call 150; (with_reducible refine (spec_l1In.calls a0_2 0 1000 false _ A39.out).mono ?_); rintro e w' ⟨rfl, ⟨nd, rfl⟩⟩; (try exact zdd))))
       go_ret
       exact ⟨zq1, zq0⟩
      have c38b0 : (t129 == a0_1) = false := beq_eq_false_iff_ne.mpr c38
      have c38b1 : (t129 != a0_1) = true := bne_iff_ne.mpr c38
      obtain rfl := zi H
      have hz46 := zc5 BK123.out
      iterate 2 (go_wp2_with (first | (go_at_call 182; (with_reducible refine (spec_l4Kind.calls a0_0 true _ A35.out).mono ?_); rintro e w' ⟨rfl, ⟨nd, rfl⟩⟩; (try exact zdd)) | (go_at_call 174; (with_reducible refine (spec_l1Clip.calls a0_1 t129 _ A37.out).mono ?_); rintro e w' ⟨rfl, ⟨nd, rfl⟩⟩; (try exact zdd))); try go_quiet (first | (go_at_call 182; (with_reducible refine (spec_l4Kind.calls a0_0 true _ A35.out).mono ?_); rintro e w' ⟨rfl, ⟨nd, rfl⟩⟩; (try exact zdd)) | (go_at_call 174; (with_reducible refine (spec_l1Clip.calls a0_1 t129 _ A37.out).mono ?_); rintro e w' ⟨rfl, ⟨nd, rfl⟩⟩; (try exact zdd))))
      go_ret
      exact ⟨zq1, zq0⟩
     obtain rfl := zi H
     have hz47 := zc5 BK123.out
     iterate 2 (go_wp2_with (first | (go_at_call 182; (with_reducible refine (spec_l4Kind.calls a0_0 false _ A35.out).mono ?_); rintro e w' ⟨rfl, ⟨nd, rfl⟩⟩; (try exact zdd))); try go_quiet (first | (go_at_call 182; (with_reducible refine (spec_l4Kind.calls a0_0 false _ A35.out).mono ?_); rintro e w' ⟨rfl, ⟨nd, rfl⟩⟩; (try exact zdd))))
     go_ret
     exact ⟨zq1, zq0⟩

end Go.Proofs.Ytkcgghgkmgbphaa.PFnMsgs
