-- WRITTEN BY a turned copy of the kit's printer (wip/patch_print.py), for this claim
import Derived.Test.YtkcgghgkmgbphaaPFnMsgsx0
import Derived.Test.YtkcgghgkmgbphaaPFnMsgsx1
namespace Go.Proofs.Ytkcgghgkmgbphaa.PFnMsgs
open Go.RowKit Go.Proofs.YtkcgghgkmgbphaaW.PrintWords Go.Proofs.YtkcgghgkmgbphaaW.PrintLast Go.Proofs.YtkcgghgkmgbphaaW.PrintMore
attribute [local go_sem] max2_int min2_int max_two min_two max_three min_three max_four min_four   -- for this text's walks alone
set_option linter.unusedVariables false
set_option linter.unusedSimpArgs false
set_option maxHeartbeats 8000000
set_option maxRecDepth 100000

/-! ### impl_SameBinds: function 29 -/
def impl_SameBinds.l0 : Nat → List (S116) → List (S116) → Int → Int → Option (Bool)
 | 0, _, _, _, _ => none
 | k + 1, x0, x1, x12, x13 => if x13 < x12 then (if 0 ≤ x13 then (if x13 < (x0.length : Int) then (if x13 < (x1.length : Int) then ((impl_SameOid.f k ((rd_T116 x0 x13).f0) ((rd_T116 x1 x13).f0)).bind fun t110 => (if t110 = true then ((impl_SameVal.f k ((rd_T116 x0 x13).f1.f0) ((rd_T116 x0 x13).f1.f1) ((rd_T116 x0 x13).f1.f2) ((rd_T116 x0 x13).f1.f3) ((rd_T116 x1 x13).f1.f0) ((rd_T116 x1 x13).f1.f1) ((rd_T116 x1 x13).f1.f2) ((rd_T116 x1 x13).f1.f3)).bind fun t113 => (if t113 = true then (impl_SameBinds.l0 k x0 x1 x12 (wrap64 (x13 + 1))) else (some false))) else (some false))) else (none)) else (none)) else (none)) else (some true)
def impl_SameBinds.f (k : Nat) (l0 : List (S116)) (l1 : List (S116)) : Option (Bool) := if (l0.length : Int) = (l1.length : Int) then (impl_SameBinds.l0 k l0 l1 (l0.length : Int) 0) else (some false)
theorem impl_SameBinds.mono_l : ∀ k, (∀ y0 y1 y2 y3, LeO (impl_SameBinds.l0 k y0 y1 y2 y3) (impl_SameBinds.l0 (k + 1) y0 y1 y2 y3))
 | 0 => fun _ _ _ _ r h => by simp [impl_SameBinds.l0] at h
 | k + 1 => by
  have ih0 := impl_SameBinds.mono_l k
  ·intro y0 y1 y2 y3
   unfold impl_SameBinds.l0
   have m0_ := @impl_SameOid.mono
   have m1_ := @impl_SameVal.mono
   exact zR
theorem impl_SameBinds.mono : ∀ a0 a1 k, LeO (impl_SameBinds.f k a0 a1) (impl_SameBinds.f (k + 1) a0 a1) := by
 intro a0 a1 k
 have ih0 := impl_SameBinds.mono_l k
 unfold impl_SameBinds.f
 have m0_ := @impl_SameOid.mono
 have m1_ := @impl_SameVal.mono
 exact zR
def impl_SameBinds.T6 : Bool × List (List Nat × List Nat) := (true, [([], []), ([], []), ([0, 1], [0, 1]), ([2], [2]), ([3], [3]), ([], []), ([], []), ([5, 6], [5, 6]), ([7], [7]), ([8], [8]), ([4, 9], [4, 9]), ([10], [10]), ([11, 10], [11]), ([12], [12]), ([12], [12]), ([13, 14, 12], [12, 13, 14]), ([15, 12], [12, 15]), ([16, 12], [12, 16]), ([12], [12]), ([12], [12]), ([18, 19, 12], [12, 18, 19]), ([20, 12], [12, 20]), ([21, 12], [12, 21]), ([17, 22, 12, 12], [12, 17, 22]), ([23, 12], [12, 23]), ([12, 24], [12, 24])])
def impl_SameBinds.B6 : List Nat := [0, 0, 3, 7, 15, 0, 0, 96, 224, 480, 1023, 2047, 4095, 8191, 8191, 32767, 65535, 131071, 8191, 8191, 794623, 1843199, 3940351, 8388607, 16777215, 33554431]
theorem impl_SameBinds.tab6 : rtab .any (opsOf Try.f29 6) = impl_SameBinds.T6 := by kernel_rfl
theorem impl_SameBinds.bits6 : waitsOk impl_SameBinds.T6.2 impl_SameBinds.B6 = true := by kernel_rfl
theorem impl_SameBinds.calls (k : Nat) (A0 : Option Addr) (c0 : Nat) (l0 : List (S116)) (A1 : Option Addr) (c1 : Nat) (l1 : List (S116)) (r : Bool) (w : World) (hr0 : Kd.C k116 w A0 l0.length l0) (hc0 : l0.length ≤ c0) (hr1 : Kd.C k116 w A1 l1.length l1) (hc1 : l1.length ≤ c1) (h : impl_SameBinds.f k l0 l1 = some r) :
  Calls Try.prog 29 #[.slice A0 l0.length c0, .slice A1 l1.length c1] w fun e w' => e = .returned (.bool r) ∧ Below w.heap.size w w' := by
 have hu76 := Try.underlying76
 have HR0 := zA hr0
 have HC0 := zA hc0
 clear hr0 hc0
 have HR1 := zA hr1
 have HC1 := zA hc1
 clear hr1 hc1
 have HB := zA (Below.refl w.heap.size w)
 unfold impl_SameBinds.f at h
 have H := zA h
 clear h
 go_enter Try.func29, Try.ntmps29
 go_upto_region 0 with fail
 go_upto_region 1 with fail
 replace H := zP H; rcases H with ⟨c5, H⟩ | ⟨c5, H⟩
 ·have c5b0 : ((l0.length : Int) == (l1.length : Int)) = true := beq_iff_eq.mpr c5
  have c5b1 : ((l0.length : Int) != (l1.length : Int)) = false := bne_eq_false_iff_eq.mpr c5
  have c5b2 : (l0.length == l1.length) = true := by first | simpa using c5 | (simp at c5 ⊢; omega)
  clear c5
  go_upto_region 3 with fail
  have H' := H; clear H
  go_wp2
  go_loopg [13] k (fun kq v13 w' => ∃ (x13_1 : Int), v13 = .int .i64 x13_1 ∧ Aside0 (impl_SameBinds.l0 kq l0 l1 (l0.length : Int) x13_1 = some r) ∧ Aside0 (kq ≤ k) ∧ Aside0 (Below w.heap.size w w'))
  case atStart => exact ⟨(0), zq15, H', ⟨Nat.le_refl _⟩, ⟨zq0⟩⟩
  case round =>
   clear H'
   try clear c1
   try clear c2
   try clear p2
   try clear c5
   try clear c5b0
   try clear c5b1
   try clear c5b2
   obtain ⟨x13_1, rfl, HA, HK1, HB⟩ := hrel
   cases gk with
   | zero => exact absurd HA.out (by simp [impl_SameBinds.l0])
   | succ k1 =>
    have H := HA
    clear HA
    simp only [impl_SameBinds.l0] at H
    go_upto_region 4 with fail
    replace H := zPd H; rcases H with ⟨c8b0, H⟩ | ⟨c8b0, H⟩
    ·go_upto_region 5 with fail
     go_upto_region 6 with fail
     replace H := zNd H; obtain ⟨c11b0, H⟩ := H
     replace H := zNd H; obtain ⟨c12b0, H⟩ := H
     replace H := zNd H; obtain ⟨c13b0, H⟩ := H
     replace H := zB H; obtain ⟨t110, A14, H⟩ := H
     try dsimp only at H
     replace H := zE H; rcases H with ⟨rfl, H⟩ | ⟨rfl, H⟩
     ·replace H := zB H; obtain ⟨t113, A16, H⟩ := H
      try dsimp only at H
      replace H := zE H; rcases H with ⟨rfl, H⟩ | ⟨rfl, H⟩
      ·try go_wp2
       replace HB := zA (below_drew1 HB.out)
       have p108 : 0 ≤ (x13_1 : Int) := of_decide_eq_true zq13
       have q108 : x13_1 < (l0.length : Int) := of_decide_eq_true zq13
       obtain ⟨ad108, A108_0, c108_0, A108_4, c108_4, e108, hx108_0, hx108_1, hx108_2, hx108_3, hx108_4, hl108_0, hi108_0, hl108_4, hi108_4⟩ := at_T116 HR0.out x13_1 p108 q108
       have hw108_4 := hx108_4
       have hw108_3 := hx108_3
       have hw108_2 := hx108_2
       have hw108_1 := hx108_1
       have hw108_0 := hx108_0
       cases e108
       replace hx108_0 := zcl HB.out hx108_0
       replace hx108_1 := zcl HB.out hx108_1
       replace hx108_2 := zcl HB.out hx108_2
       replace hx108_3 := zcl HB.out hx108_3
       replace hx108_4 := zcl HB.out hx108_4
       have HR108_0 := zA hi108_0
       have HC108_0 := zA hl108_0
       clear hi108_0 hl108_0
       have HR108_4 := zA hi108_4
       have HC108_4 := zA hl108_4
       clear hi108_4 hl108_4
       replace p108 := eq_true p108
       replace q108 := eq_true q108
       have p109 : 0 ≤ (x13_1 : Int) := of_decide_eq_true zq13
       have q109 : x13_1 < (l1.length : Int) := of_decide_eq_true zq13
       obtain ⟨ad109, A109_0, c109_0, A109_4, c109_4, e109, hx109_0, hx109_1, hx109_2, hx109_3, hx109_4, hl109_0, hi109_0, hl109_4, hi109_4⟩ := at_T116 HR1.out x13_1 p109 q109
       have hw109_4 := hx109_4
       have hw109_3 := hx109_3
       have hw109_2 := hx109_2
       have hw109_1 := hx109_1
       have hw109_0 := hx109_0
       cases e109
       replace hx109_0 := zcl HB.out hx109_0
       replace hx109_1 := zcl HB.out hx109_1
       replace hx109_2 := zcl HB.out hx109_2
       replace hx109_3 := zcl HB.out hx109_3
       replace hx109_4 := zcl HB.out hx109_4
       have HR109_0 := zA hi109_0
       have HC109_0 := zA hl109_0
       clear hi109_0 hl109_0
       have HR109_4 := zA hi109_4
       have HC109_4 := zA hl109_4
       clear hi109_4 hl109_4
       replace p109 := eq_true p109
       replace q109 := eq_true q109
       have p111 : 0 ≤ (x13_1 : Int) := of_decide_eq_true zq13
       have q111 : x13_1 < (l0.length : Int) := of_decide_eq_true zq13
       obtain ⟨ad111, A111_0, c111_0, A111_4, c111_4, e111, hx111_0, hx111_1, hx111_2, hx111_3, hx111_4, hl111_0, hi111_0, hl111_4, hi111_4⟩ := at_T116 HR0.out x13_1 p111 q111
       have hw111_4 := hx111_4
       have hw111_3 := hx111_3
       have hw111_2 := hx111_2
       have hw111_1 := hx111_1
       have hw111_0 := hx111_0
       obtain rfl : ad108 = ad111 := (by injection e111)
       replace hx111_0 := zcl HB.out hx111_0
       replace hx111_1 := zcl HB.out hx111_1
       replace hx111_2 := zcl HB.out hx111_2
       replace hx111_3 := zcl HB.out hx111_3
       replace hx111_4 := zcl HB.out hx111_4
       have HR111_0 := zA hi111_0
       have HC111_0 := zA hl111_0
       clear hi111_0 hl111_0
       have HR111_4 := zA hi111_4
       have HC111_4 := zA hl111_4
       clear hi111_4 hl111_4
       replace p111 := eq_true p111
       replace q111 := eq_true q111
       have ea_ := Option.some.inj (hx108_0.symm.trans hx111_0)
       injection ea_ with ea_ en_ ec_
       subst ea_
       subst ec_
       clear en_
       have ea_ := Option.some.inj (hx108_4.symm.trans hx111_4)
       injection ea_ with ea_ en_ ec_
       subst ea_
       subst ec_
       clear en_
       have p112 : 0 ≤ (x13_1 : Int) := of_decide_eq_true zq13
       have q112 : x13_1 < (l1.length : Int) := of_decide_eq_true zq13
       obtain ⟨ad112, A112_0, c112_0, A112_4, c112_4, e112, hx112_0, hx112_1, hx112_2, hx112_3, hx112_4, hl112_0, hi112_0, hl112_4, hi112_4⟩ := at_T116 HR1.out x13_1 p112 q112
       have hw112_4 := hx112_4
       have hw112_3 := hx112_3
       have hw112_2 := hx112_2
       have hw112_1 := hx112_1
       have hw112_0 := hx112_0
       obtain rfl : ad109 = ad112 := (by injection e112)
       replace hx112_0 := zcl HB.out hx112_0
       replace hx112_1 := zcl HB.out hx112_1
       replace hx112_2 := zcl HB.out hx112_2
       replace hx112_3 := zcl HB.out hx112_3
       replace hx112_4 := zcl HB.out hx112_4
       have HR112_0 := zA hi112_0
       have HC112_0 := zA hl112_0
       clear hi112_0 hl112_0
       have HR112_4 := zA hi112_4
       have HC112_4 := zA hl112_4
       clear hi112_4 hl112_4
       replace p112 := eq_true p112
       replace q112 := eq_true q112
       have ea_ := Option.some.inj (hx109_0.symm.trans hx112_0)
       injection ea_ with ea_ en_ ec_
       subst ea_
       subst ec_
       clear en_
       have ea_ := Option.some.inj (hx109_4.symm.trans hx112_4)
       injection ea_ with ea_ en_ ec_
       subst ea_
       subst ec_
       clear en_
       refine start_ (n := 26) (S := fun w' => w'.cell? (ad108.add ((x13_1).toNat * 5)) = some (.slice A108_0 ((rd_T116 l0 x13_1).f0).length c108_0) ∧ w'.cell? ⟨(ad108.add ((x13_1).toNat * 5)).block, (ad108.add ((x13_1).toNat * 5)).off + 1, none⟩ = some (.int .i64 ((rd_T116 l0 x13_1).f1.f0)) ∧ w'.cell? ⟨(ad108.add ((x13_1).toNat * 5)).block, (ad108.add ((x13_1).toNat * 5)).off + 2, none⟩ = some (.int .i64 ((rd_T116 l0 x13_1).f1.f1)) ∧ w'.cell? ⟨(ad108.add ((x13_1).toNat * 5)).block, (ad108.add ((x13_1).toNat * 5)).off + 3, none⟩ = some (.string ((rd_T116 l0 x13_1).f1.f2)) ∧ w'.cell? ⟨(ad108.add ((x13_1).toNat * 5)).block, (ad108.add ((x13_1).toNat * 5)).off + 4, none⟩ = some (.slice A108_4 ((rd_T116 l0 x13_1).f1.f3).length c108_4) ∧ w'.cell? (ad109.add ((x13_1).toNat * 5)) = some (.slice A109_0 ((rd_T116 l1 x13_1).f0).length c109_0) ∧ w'.cell? ⟨(ad109.add ((x13_1).toNat * 5)).block, (ad109.add ((x13_1).toNat * 5)).off + 1, none⟩ = some (.int .i64 ((rd_T116 l1 x13_1).f1.f0)) ∧ w'.cell? ⟨(ad109.add ((x13_1).toNat * 5)).block, (ad109.add ((x13_1).toNat * 5)).off + 2, none⟩ = some (.int .i64 ((rd_T116 l1 x13_1).f1.f1)) ∧ w'.cell? ⟨(ad109.add ((x13_1).toNat * 5)).block, (ad109.add ((x13_1).toNat * 5)).off + 3, none⟩ = some (.string ((rd_T116 l1 x13_1).f1.f2)) ∧ w'.cell? ⟨(ad109.add ((x13_1).toNat * 5)).block, (ad109.add ((x13_1).toNat * 5)).off + 4, none⟩ = some (.slice A109_4 ((rd_T116 l1 x13_1).f1.f3).length c109_4) ∧ w'.cell? (ad108.add ((x13_1).toNat * 5)) = some (.slice A108_0 ((rd_T116 l0 x13_1).f0).length c108_0) ∧ w'.cell? ⟨(ad108.add ((x13_1).toNat * 5)).block, (ad108.add ((x13_1).toNat * 5)).off + 1, none⟩ = some (.int .i64 ((rd_T116 l0 x13_1).f1.f0)) ∧ w'.cell? ⟨(ad108.add ((x13_1).toNat * 5)).block, (ad108.add ((x13_1).toNat * 5)).off + 2, none⟩ = some (.int .i64 ((rd_T116 l0 x13_1).f1.f1)) ∧ w'.cell? ⟨(ad108.add ((x13_1).toNat * 5)).block, (ad108.add ((x13_1).toNat * 5)).off + 3, none⟩ = some (.string ((rd_T116 l0 x13_1).f1.f2)) ∧ w'.cell? ⟨(ad108.add ((x13_1).toNat * 5)).block, (ad108.add ((x13_1).toNat * 5)).off + 4, none⟩ = some (.slice A108_4 ((rd_T116 l0 x13_1).f1.f3).length c108_4) ∧ w'.cell? (ad109.add ((x13_1).toNat * 5)) = some (.slice A109_0 ((rd_T116 l1 x13_1).f0).length c109_0) ∧ w'.cell? ⟨(ad109.add ((x13_1).toNat * 5)).block, (ad109.add ((x13_1).toNat * 5)).off + 1, none⟩ = some (.int .i64 ((rd_T116 l1 x13_1).f1.f0)) ∧ w'.cell? ⟨(ad109.add ((x13_1).toNat * 5)).block, (ad109.add ((x13_1).toNat * 5)).off + 2, none⟩ = some (.int .i64 ((rd_T116 l1 x13_1).f1.f1)) ∧ w'.cell? ⟨(ad109.add ((x13_1).toNat * 5)).block, (ad109.add ((x13_1).toNat * 5)).off + 3, none⟩ = some (.string ((rd_T116 l1 x13_1).f1.f2)) ∧ w'.cell? ⟨(ad109.add ((x13_1).toNat * 5)).block, (ad109.add ((x13_1).toNat * 5)).off + 4, none⟩ = some (.slice A109_4 ((rd_T116 l1 x13_1).f1.f3).length c109_4)) (ds := []) (zv 26 0) (by kernel_rfl) rfl rfl ⟨(zcl HB.out hw108_0 :), (zcl HB.out hw108_1 :), (zcl HB.out hw108_2 :), (zcl HB.out hw108_3 :), (zcl HB.out hw108_4 :), (zcl HB.out hw109_0 :), (zcl HB.out hw109_1 :), (zcl HB.out hw109_2 :), (zcl HB.out hw109_3 :), (zcl HB.out hw109_4 :), (zcl HB.out hw111_0 :), (zcl HB.out hw111_1 :), (zcl HB.out hw111_2 :), (zcl HB.out hw111_3 :), (zcl HB.out hw111_4 :), (zcl HB.out hw112_0 :), (zcl HB.out hw112_1 :), (zcl HB.out hw112_2 :), (zcl HB.out hw112_3 :), (zcl HB.out hw112_4 :)⟩ (fun hHeld => ?_); refine with_tabW impl_SameBinds.tab6 impl_SameBinds.bits6 (fun HT_ HW_ => ?_)
       generalize wr.drew = w19 at HB HR108_0 HR108_4 HR109_0 HR109_4 HR111_0 HR111_4 HR112_0 HR112_4 hx108_0 hx108_1 hx108_2 hx108_3 hx108_4 hx109_0 hx109_1 hx109_2 hx109_3 hx109_4 hx111_0 hx111_1 hx111_2 hx111_3 hx111_4 hx112_0 hx112_1 hx112_2 hx112_3 hx112_4 hHeld ⊢
       refine zyt 0 16 (zv 26 1) ?_
       refine zyt 1 17 (zv 26 3) ?_
       refine zyt 2 18 (zv 26 7) ?_
       refine zyt 3 19 (zv 26 15) ?_
       refine zyt 5 21 (zv 26 47) ?_
       refine zyt 6 22 (zv 26 111) ?_
       refine zyt 7 23 (zv 26 239) ?_
       refine zyt 8 24 (zv 26 495) ?_
       refine take_ (i := 4) (N := some 20) (v := ?_) (a' := ?_) (zv 26 511) rfl rfl (take_ofW HT_.out HW_.out (by kernel_rfl)) (fun _ _ _ h => h) (Or.inl ⟨zq94, ?_⟩) hHeld ?_ ?_
       rotate_left
       ·rintro w' ⟨s0, s1, s2, s3, s4, s5, s6, s7, s8, s9, s10, s11, s12, s13, s14, s15, s16, s17, s18, s19⟩
        go_simp
        with_reducible rfl
       rotate_left
       ·simp only [zvs, i64_w, i32_w]
        rfl
       refine take_ (i := 9) (N := some 25) (v := ?_) (a' := ?_) (zv 26 1023) rfl rfl (take_ofW HT_.out HW_.out (by kernel_rfl)) (fun _ _ _ h => h) (Or.inl ⟨zq94, ?_⟩) hHeld ?_ ?_
       rotate_left
       ·rintro w' ⟨s0, s1, s2, s3, s4, s5, s6, s7, s8, s9, s10, s11, s12, s13, s14, s15, s16, s17, s18, s19⟩
        go_simp
        with_reducible rfl
       rotate_left
       ·simp only [zvs, i64_w, i32_w]
        rfl
       refine one_ (i := 10) (N := some 26) (zv 26 2047) rfl rfl (one_of HT_.out (by kernel_rfl)) zq52 (fun K hK => ?_)
       refine goes_ Try.func128 (by kernel_rfl) rfl #[.slice A108_0 ((rd_T116 l0 x13_1).f0).length c108_0, .slice A109_0 ((rd_T116 l1 x13_1).f0).length c109_0] zq94 rfl rfl zq20 ?_
       with_reducible refine (impl_SameOid.calls k1 _ _ ((rd_T116 l0 x13_1).f0) _ _ ((rd_T116 l1 x13_1).f0) true _ ?side1 ?side2 ?side3 ?side4 A14.out).mono ?_
       (case side1 => exact zq194)
       (case side2 => exact HC108_0.out)
       (case side3 => exact zq195)
       (case side4 => exact HC109_0.out)
       rintro e w' ⟨rfl, ⟨nd, rfl⟩⟩
       refine ⟨_, rfl, ?_⟩
       refine hK.out _ _ ⟨(zcl HB.out hw108_0 :), (zcl HB.out hw108_1 :), (zcl HB.out hw108_2 :), (zcl HB.out hw108_3 :), (zcl HB.out hw108_4 :), (zcl HB.out hw109_0 :), (zcl HB.out hw109_1 :), (zcl HB.out hw109_2 :), (zcl HB.out hw109_3 :), (zcl HB.out hw109_4 :), (zcl HB.out hw111_0 :), (zcl HB.out hw111_1 :), (zcl HB.out hw111_2 :), (zcl HB.out hw111_3 :), (zcl HB.out hw111_4 :), (zcl HB.out hw112_0 :), (zcl HB.out hw112_1 :), (zcl HB.out hw112_2 :), (zcl HB.out hw112_3 :), (zcl HB.out hw112_4 :)⟩ (fun hHeld => ?_)
       clear hK K
       refine norm_ (a' := ?_) ?_ ?_
       rotate_left
       ·show Act.put _ (some 26) _ = _
        simp only [zvs, i64_w, i32_w]
        rfl
       refine zyt 11 27 (zv 26 4095) ?_
       refine zyt 12 28 (zv 26 8191) ?_
       refine zyt 13 29 (zv 26 16383) ?_
       refine zyt 14 30 (zv 26 32767) ?_
       refine zyt 15 31 (zv 26 65535) ?_
       refine zyt 16 32 (zv 26 131071) ?_
       refine zyt 18 34 (zv 26 393215) ?_
       refine zyt 19 35 (zv 26 917503) ?_
       refine zyt 20 36 (zv 26 1966079) ?_
       refine zyt 21 37 (zv 26 4063231) ?_
       refine take_ (i := 17) (N := some 33) (v := ?_) (a' := ?_) (zv 26 4194303) rfl rfl (take_ofW HT_.out HW_.out (by kernel_rfl)) (fun _ _ _ h => h) (Or.inl ⟨zq94, ?_⟩) hHeld ?_ ?_
       rotate_left
       ·rintro w' ⟨s0, s1, s2, s3, s4, s5, s6, s7, s8, s9, s10, s11, s12, s13, s14, s15, s16, s17, s18, s19⟩
        go_simp
        with_reducible rfl
       rotate_left
       ·simp only [zvs, i64_w, i32_w]
        rfl
       refine take_ (i := 22) (N := some 38) (v := ?_) (a' := ?_) (zv 26 8388607) rfl rfl (take_ofW HT_.out HW_.out (by kernel_rfl)) (fun _ _ _ h => h) (Or.inl ⟨zq94, ?_⟩) hHeld ?_ ?_
       rotate_left
       ·rintro w' ⟨s0, s1, s2, s3, s4, s5, s6, s7, s8, s9, s10, s11, s12, s13, s14, s15, s16, s17, s18, s19⟩
        go_simp
        with_reducible rfl
       rotate_left
       ·simp only [zvs, i64_w, i32_w]
        rfl
       refine one_ (i := 23) (N := some 39) (zv 26 16777215) rfl rfl (one_of HT_.out (by kernel_rfl)) zq52 (fun K hK => ?_)
       refine goes_ Try.func93 (by kernel_rfl) rfl #[.agg #[.int .i64 ((rd_T116 l0 x13_1).f1.f0), .int .i64 ((rd_T116 l0 x13_1).f1.f1), .string ((rd_T116 l0 x13_1).f1.f2), .slice A108_4 ((rd_T116 l0 x13_1).f1.f3).length c108_4], .agg #[.int .i64 ((rd_T116 l1 x13_1).f1.f0), .int .i64 ((rd_T116 l1 x13_1).f1.f1), .string ((rd_T116 l1 x13_1).f1.f2), .slice A109_4 ((rd_T116 l1 x13_1).f1.f3).length c109_4]] zq94 rfl rfl zq20 ?_
       with_reducible refine (impl_SameVal.calls k1 ((rd_T116 l0 x13_1).f1.f0) ((rd_T116 l0 x13_1).f1.f1) ((rd_T116 l0 x13_1).f1.f2) _ _ ((rd_T116 l0 x13_1).f1.f3) ((rd_T116 l1 x13_1).f1.f0) ((rd_T116 l1 x13_1).f1.f1) ((rd_T116 l1 x13_1).f1.f2) _ _ ((rd_T116 l1 x13_1).f1.f3) true _ ?side1 ?side2 ?side3 ?side4 A16.out).mono ?_
       (case side1 => exact zq214)
       (case side2 => exact HC111_4.out)
       (case side3 => exact zq215)
       (case side4 => exact HC112_4.out)
       rintro e w20 ⟨rfl, hb⟩
       refine ⟨_, rfl, ?_⟩
       replace HB := zA (below_step zq0 hb)
       (try clear hb)
       (try clear hb2)
       (try clear hk)
       (try clear hi)
       refine hK.out _ _ ⟨(zcl HB.out hw108_0 :), (zcl HB.out hw108_1 :), (zcl HB.out hw108_2 :), (zcl HB.out hw108_3 :), (zcl HB.out hw108_4 :), (zcl HB.out hw109_0 :), (zcl HB.out hw109_1 :), (zcl HB.out hw109_2 :), (zcl HB.out hw109_3 :), (zcl HB.out hw109_4 :), (zcl HB.out hw111_0 :), (zcl HB.out hw111_1 :), (zcl HB.out hw111_2 :), (zcl HB.out hw111_3 :), (zcl HB.out hw111_4 :), (zcl HB.out hw112_0 :), (zcl HB.out hw112_1 :), (zcl HB.out hw112_2 :), (zcl HB.out hw112_3 :), (zcl HB.out hw112_4 :)⟩ (fun hHeld => ?_)
       clear hK K
       refine norm_ (a' := ?_) ?_ ?_
       rotate_left
       ·show Act.put _ (some 39) _ = _
        simp only [zvs, i64_w, i32_w]
        rfl
       refine zyt 24 40 (zv 26 33554431) ?_
       refine zyt 25 41 (zv 26 67108863) ?_
       refine done_ (done_of HT_.out (by kernel_rfl)) ?_
       go_upto_region 8 with fail
       have H' := H; clear H
       go_wp2
       go_roundg k1
       case measure => have := HK1.out; omega
       case rel => exact ⟨(wrap64 (x13_1 + 1)), zq15, H', ⟨zq182⟩, ⟨zq0⟩⟩
      try go_wp2
      replace HB := zA (below_drew1 HB.out)
      have p108 : 0 ≤ (x13_1 : Int) := of_decide_eq_true zq13
      have q108 : x13_1 < (l0.length : Int) := of_decide_eq_true zq13
      obtain ⟨ad108, A108_0, c108_0, A108_4, c108_4, e108, hx108_0, hx108_1, hx108_2, hx108_3, hx108_4, hl108_0, hi108_0, hl108_4, hi108_4⟩ := at_T116 HR0.out x13_1 p108 q108
      have hw108_4 := hx108_4
      have hw108_3 := hx108_3
      have hw108_2 := hx108_2
      have hw108_1 := hx108_1
      have hw108_0 := hx108_0
      cases e108
      replace hx108_0 := zcl HB.out hx108_0
      replace hx108_1 := zcl HB.out hx108_1
      replace hx108_2 := zcl HB.out hx108_2
      replace hx108_3 := zcl HB.out hx108_3
      replace hx108_4 := zcl HB.out hx108_4
      have HR108_0 := zA hi108_0
      have HC108_0 := zA hl108_0
      clear hi108_0 hl108_0
      have HR108_4 := zA hi108_4
      have HC108_4 := zA hl108_4
      clear hi108_4 hl108_4
      replace p108 := eq_true p108
      replace q108 := eq_true q108
      have p109 : 0 ≤ (x13_1 : Int) := of_decide_eq_true zq13
      have q109 : x13_1 < (l1.length : Int) := of_decide_eq_true zq13
      obtain ⟨ad109, A109_0, c109_0, A109_4, c109_4, e109, hx109_0, hx109_1, hx109_2, hx109_3, hx109_4, hl109_0, hi109_0, hl109_4, hi109_4⟩ := at_T116 HR1.out x13_1 p109 q109
      have hw109_4 := hx109_4
      have hw109_3 := hx109_3
      have hw109_2 := hx109_2
      have hw109_1 := hx109_1
      have hw109_0 := hx109_0
      cases e109
      replace hx109_0 := zcl HB.out hx109_0
      replace hx109_1 := zcl HB.out hx109_1
      replace hx109_2 := zcl HB.out hx109_2
      replace hx109_3 := zcl HB.out hx109_3
      replace hx109_4 := zcl HB.out hx109_4
      have HR109_0 := zA hi109_0
      have HC109_0 := zA hl109_0
      clear hi109_0 hl109_0
      have HR109_4 := zA hi109_4
      have HC109_4 := zA hl109_4
      clear hi109_4 hl109_4
      replace p109 := eq_true p109
      replace q109 := eq_true q109
      have p111 : 0 ≤ (x13_1 : Int) := of_decide_eq_true zq13
      have q111 : x13_1 < (l0.length : Int) := of_decide_eq_true zq13
      obtain ⟨ad111, A111_0, c111_0, A111_4, c111_4, e111, hx111_0, hx111_1, hx111_2, hx111_3, hx111_4, hl111_0, hi111_0, hl111_4, hi111_4⟩ := at_T116 HR0.out x13_1 p111 q111
      have hw111_4 := hx111_4
      have hw111_3 := hx111_3
      have hw111_2 := hx111_2
      have hw111_1 := hx111_1
      have hw111_0 := hx111_0
      obtain rfl : ad108 = ad111 := (by injection e111)
      replace hx111_0 := zcl HB.out hx111_0
      replace hx111_1 := zcl HB.out hx111_1
      replace hx111_2 := zcl HB.out hx111_2
      replace hx111_3 := zcl HB.out hx111_3
      replace hx111_4 := zcl HB.out hx111_4
      have HR111_0 := zA hi111_0
      have HC111_0 := zA hl111_0
      clear hi111_0 hl111_0
      have HR111_4 := zA hi111_4
      have HC111_4 := zA hl111_4
      clear hi111_4 hl111_4
      replace p111 := eq_true p111
      replace q111 := eq_true q111
      have ea_ := Option.some.inj (hx108_0.symm.trans hx111_0)
      injection ea_ with ea_ en_ ec_
      subst ea_
      subst ec_
      clear en_
      have ea_ := Option.some.inj (hx108_4.symm.trans hx111_4)
      injection ea_ with ea_ en_ ec_
      subst ea_
      subst ec_
      clear en_
      have p112 : 0 ≤ (x13_1 : Int) := of_decide_eq_true zq13
      have q112 : x13_1 < (l1.length : Int) := of_decide_eq_true zq13
      obtain ⟨ad112, A112_0, c112_0, A112_4, c112_4, e112, hx112_0, hx112_1, hx112_2, hx112_3, hx112_4, hl112_0, hi112_0, hl112_4, hi112_4⟩ := at_T116 HR1.out x13_1 p112 q112
      have hw112_4 := hx112_4
      have hw112_3 := hx112_3
      have hw112_2 := hx112_2
      have hw112_1 := hx112_1
      have hw112_0 := hx112_0
      obtain rfl : ad109 = ad112 := (by injection e112)
      replace hx112_0 := zcl HB.out hx112_0
      replace hx112_1 := zcl HB.out hx112_1
      replace hx112_2 := zcl HB.out hx112_2
      replace hx112_3 := zcl HB.out hx112_3
      replace hx112_4 := zcl HB.out hx112_4
      have HR112_0 := zA hi112_0
      have HC112_0 := zA hl112_0
      clear hi112_0 hl112_0
      have HR112_4 := zA hi112_4
      have HC112_4 := zA hl112_4
      clear hi112_4 hl112_4
      replace p112 := eq_true p112
      replace q112 := eq_true q112
      have ea_ := Option.some.inj (hx109_0.symm.trans hx112_0)
      injection ea_ with ea_ en_ ec_
      subst ea_
      subst ec_
      clear en_
      have ea_ := Option.some.inj (hx109_4.symm.trans hx112_4)
      injection ea_ with ea_ en_ ec_
      subst ea_
      subst ec_
      clear en_
      refine start_ (n := 26) (S := fun w' => w'.cell? (ad108.add ((x13_1).toNat * 5)) = some (.slice A108_0 ((rd_T116 l0 x13_1).f0).length c108_0) ∧ w'.cell? ⟨(ad108.add ((x13_1).toNat * 5)).block, (ad108.add ((x13_1).toNat * 5)).off + 1, none⟩ = some (.int .i64 ((rd_T116 l0 x13_1).f1.f0)) ∧ w'.cell? ⟨(ad108.add ((x13_1).toNat * 5)).block, (ad108.add ((x13_1).toNat * 5)).off + 2, none⟩ = some (.int .i64 ((rd_T116 l0 x13_1).f1.f1)) ∧ w'.cell? ⟨(ad108.add ((x13_1).toNat * 5)).block, (ad108.add ((x13_1).toNat * 5)).off + 3, none⟩ = some (.string ((rd_T116 l0 x13_1).f1.f2)) ∧ w'.cell? ⟨(ad108.add ((x13_1).toNat * 5)).block, (ad108.add ((x13_1).toNat * 5)).off + 4, none⟩ = some (.slice A108_4 ((rd_T116 l0 x13_1).f1.f3).length c108_4) ∧ w'.cell? (ad109.add ((x13_1).toNat * 5)) = some (.slice A109_0 ((rd_T116 l1 x13_1).f0).length c109_0) ∧ w'.cell? ⟨(ad109.add ((x13_1).toNat * 5)).block, (ad109.add ((x13_1).toNat * 5)).off + 1, none⟩ = some (.int .i64 ((rd_T116 l1 x13_1).f1.f0)) ∧ w'.cell? ⟨(ad109.add ((x13_1).toNat * 5)).block, (ad109.add ((x13_1).toNat * 5)).off + 2, none⟩ = some (.int .i64 ((rd_T116 l1 x13_1).f1.f1)) ∧ w'.cell? ⟨(ad109.add ((x13_1).toNat * 5)).block, (ad109.add ((x13_1).toNat * 5)).off + 3, none⟩ = some (.string ((rd_T116 l1 x13_1).f1.f2)) ∧ w'.cell? ⟨(ad109.add ((x13_1).toNat * 5)).block, (ad109.add ((x13_1).toNat * 5)).off + 4, none⟩ = some (.slice A109_4 ((rd_T116 l1 x13_1).f1.f3).length c109_4) ∧ w'.cell? (ad108.add ((x13_1).toNat * 5)) = some (.slice A108_0 ((rd_T116 l0 x13_1).f0).length c108_0) ∧ w'.cell? ⟨(ad108.add ((x13_1).toNat * 5)).block, (ad108.add ((x13_1).toNat * 5)).off + 1, none⟩ = some (.int .i64 ((rd_T116 l0 x13_1).f1.f0)) ∧ w'.cell? ⟨(ad108.add ((x13_1).toNat * 5)).block, (ad108.add ((x13_1).toNat * 5)).off + 2, none⟩ = some (.int .i64 ((rd_T116 l0 x13_1).f1.f1)) ∧ w'.cell? ⟨(ad108.add ((x13_1).toNat * 5)).block, (ad108.add ((x13_1).toNat * 5)).off + 3, none⟩ = some (.string ((rd_T116 l0 x13_1).f1.f2)) ∧ w'.cell? ⟨(ad108.add ((x13_1).toNat * 5)).block, (ad108.add ((x13_1).toNat * 5)).off + 4, none⟩ = some (.slice A108_4 ((rd_T116 l0 x13_1).f1.f3).length c108_4) ∧ w'.cell? (ad109.add ((x13_1).toNat * 5)) = some (.slice A109_0 ((rd_T116 l1 x13_1).f0).length c109_0) ∧ w'.cell? ⟨(ad109.add ((x13_1).toNat * 5)).block, (ad109.add ((x13_1).toNat * 5)).off + 1, none⟩ = some (.int .i64 ((rd_T116 l1 x13_1).f1.f0)) ∧ w'.cell? ⟨(ad109.add ((x13_1).toNat * 5)).block, (ad109.add ((x13_1).toNat * 5)).off + 2, none⟩ = some (.int .i64 ((rd_T116 l1 x13_1).f1.f1)) ∧ w'.cell? ⟨(ad109.add ((x13_1).toNat * 5)).block, (ad109.add ((x13_1).toNat * 5)).off + 3, none⟩ = some (.string ((rd_T116 l1 x13_1).f1.f2)) ∧ w'.cell? ⟨(ad109.add ((x13_1).toNat * 5)).block, (ad109.add ((x13_1).toNat * 5)).off + 4, none⟩ = some (.slice A109_4 ((rd_T116 l1 x13_1).f1.f3).length c109_4)) (ds := []) (zv 26 0) (by kernel_rfl) rfl rfl ⟨(zcl HB.out hw108_0 :), (zcl HB.out hw108_1 :), (zcl HB.out hw108_2 :), (zcl HB.out hw108_3 :), (zcl HB.out hw108_4 :), (zcl HB.out hw109_0 :), (zcl HB.out hw109_1 :), (zcl HB.out hw109_2 :), (zcl HB.out hw109_3 :), (zcl HB.out hw109_4 :), (zcl HB.out hw111_0 :), (zcl HB.out hw111_1 :), (zcl HB.out hw111_2 :), (zcl HB.out hw111_3 :), (zcl HB.out hw111_4 :), (zcl HB.out hw112_0 :), (zcl HB.out hw112_1 :), (zcl HB.out hw112_2 :), (zcl HB.out hw112_3 :), (zcl HB.out hw112_4 :)⟩ (fun hHeld => ?_); refine with_tabW impl_SameBinds.tab6 impl_SameBinds.bits6 (fun HT_ HW_ => ?_)
      generalize wr.drew = w22 at HB HR108_0 HR108_4 HR109_0 HR109_4 HR111_0 HR111_4 HR112_0 HR112_4 hx108_0 hx108_1 hx108_2 hx108_3 hx108_4 hx109_0 hx109_1 hx109_2 hx109_3 hx109_4 hx111_0 hx111_1 hx111_2 hx111_3 hx111_4 hx112_0 hx112_1 hx112_2 hx112_3 hx112_4 hHeld ⊢
      refine zyt 0 16 (zv 26 1) ?_
      refine zyt 1 17 (zv 26 3) ?_
      refine zyt 2 18 (zv 26 7) ?_
      refine zyt 3 19 (zv 26 15) ?_
      refine zyt 5 21 (zv 26 47) ?_
      refine zyt 6 22 (zv 26 111) ?_
      refine zyt 7 23 (zv 26 239) ?_
      refine zyt 8 24 (zv 26 495) ?_
      refine take_ (i := 4) (N := some 20) (v := ?_) (a' := ?_) (zv 26 511) rfl rfl (take_ofW HT_.out HW_.out (by kernel_rfl)) (fun _ _ _ h => h) (Or.inl ⟨zq94, ?_⟩) hHeld ?_ ?_
      rotate_left
      ·rintro w' ⟨s0, s1, s2, s3, s4, s5, s6, s7, s8, s9, s10, s11, s12, s13, s14, s15, s16, s17, s18, s19⟩
       go_simp
       with_reducible rfl
      rotate_left
      ·simp only [zvs, i64_w, i32_w]
       rfl
      refine take_ (i := 9) (N := some 25) (v := ?_) (a' := ?_) (zv 26 1023) rfl rfl (take_ofW HT_.out HW_.out (by kernel_rfl)) (fun _ _ _ h => h) (Or.inl ⟨zq94, ?_⟩) hHeld ?_ ?_
      rotate_left
      ·rintro w' ⟨s0, s1, s2, s3, s4, s5, s6, s7, s8, s9, s10, s11, s12, s13, s14, s15, s16, s17, s18, s19⟩
       go_simp
       with_reducible rfl
      rotate_left
      ·simp only [zvs, i64_w, i32_w]
       rfl
      refine one_ (i := 10) (N := some 26) (zv 26 2047) rfl rfl (one_of HT_.out (by kernel_rfl)) zq52 (fun K hK => ?_)
      refine goes_ Try.func128 (by kernel_rfl) rfl #[.slice A108_0 ((rd_T116 l0 x13_1).f0).length c108_0, .slice A109_0 ((rd_T116 l1 x13_1).f0).length c109_0] zq94 rfl rfl zq20 ?_
      with_reducible refine (impl_SameOid.calls k1 _ _ ((rd_T116 l0 x13_1).f0) _ _ ((rd_T116 l1 x13_1).f0) true _ ?side1 ?side2 ?side3 ?side4 A14.out).mono ?_
      (case side1 => exact zq194)
      (case side2 => exact HC108_0.out)
      (case side3 => exact zq195)
      (case side4 => exact HC109_0.out)
      rintro e w' ⟨rfl, ⟨nd, rfl⟩⟩
      refine ⟨_, rfl, ?_⟩
      refine hK.out _ _ ⟨(zcl HB.out hw108_0 :), (zcl HB.out hw108_1 :), (zcl HB.out hw108_2 :), (zcl HB.out hw108_3 :), (zcl HB.out hw108_4 :), (zcl HB.out hw109_0 :), (zcl HB.out hw109_1 :), (zcl HB.out hw109_2 :), (zcl HB.out hw109_3 :), (zcl HB.out hw109_4 :), (zcl HB.out hw111_0 :), (zcl HB.out hw111_1 :), (zcl HB.out hw111_2 :), (zcl HB.out hw111_3 :), (zcl HB.out hw111_4 :), (zcl HB.out hw112_0 :), (zcl HB.out hw112_1 :), (zcl HB.out hw112_2 :), (zcl HB.out hw112_3 :), (zcl HB.out hw112_4 :)⟩ (fun hHeld => ?_)
      clear hK K
      refine norm_ (a' := ?_) ?_ ?_
      rotate_left
      ·show Act.put _ (some 26) _ = _
       simp only [zvs, i64_w, i32_w]
       rfl
      refine zyt 11 27 (zv 26 4095) ?_
      refine zyt 12 28 (zv 26 8191) ?_
      refine zyt 13 29 (zv 26 16383) ?_
      refine zyt 14 30 (zv 26 32767) ?_
      refine zyt 15 31 (zv 26 65535) ?_
      refine zyt 16 32 (zv 26 131071) ?_
      refine zyt 18 34 (zv 26 393215) ?_
      refine zyt 19 35 (zv 26 917503) ?_
      refine zyt 20 36 (zv 26 1966079) ?_
      refine zyt 21 37 (zv 26 4063231) ?_
      refine take_ (i := 17) (N := some 33) (v := ?_) (a' := ?_) (zv 26 4194303) rfl rfl (take_ofW HT_.out HW_.out (by kernel_rfl)) (fun _ _ _ h => h) (Or.inl ⟨zq94, ?_⟩) hHeld ?_ ?_
      rotate_left
      ·rintro w' ⟨s0, s1, s2, s3, s4, s5, s6, s7, s8, s9, s10, s11, s12, s13, s14, s15, s16, s17, s18, s19⟩
       go_simp
       with_reducible rfl
      rotate_left
      ·simp only [zvs, i64_w, i32_w]
       rfl
      refine take_ (i := 22) (N := some 38) (v := ?_) (a' := ?_) (zv 26 8388607) rfl rfl (take_ofW HT_.out HW_.out (by kernel_rfl)) (fun _ _ _ h => h) (Or.inl ⟨zq94, ?_⟩) hHeld ?_ ?_
      rotate_left
      ·rintro w' ⟨s0, s1, s2, s3, s4, s5, s6, s7, s8, s9, s10, s11, s12, s13, s14, s15, s16, s17, s18, s19⟩
       go_simp
       with_reducible rfl
      rotate_left
      ·simp only [zvs, i64_w, i32_w]
       rfl
      refine one_ (i := 23) (N := some 39) (zv 26 16777215) rfl rfl (one_of HT_.out (by kernel_rfl)) zq52 (fun K hK => ?_)
      refine goes_ Try.func93 (by kernel_rfl) rfl #[.agg #[.int .i64 ((rd_T116 l0 x13_1).f1.f0), .int .i64 ((rd_T116 l0 x13_1).f1.f1), .string ((rd_T116 l0 x13_1).f1.f2), .slice A108_4 ((rd_T116 l0 x13_1).f1.f3).length c108_4], .agg #[.int .i64 ((rd_T116 l1 x13_1).f1.f0), .int .i64 ((rd_T116 l1 x13_1).f1.f1), .string ((rd_T116 l1 x13_1).f1.f2), .slice A109_4 ((rd_T116 l1 x13_1).f1.f3).length c109_4]] zq94 rfl rfl zq20 ?_
      with_reducible refine (impl_SameVal.calls k1 ((rd_T116 l0 x13_1).f1.f0) ((rd_T116 l0 x13_1).f1.f1) ((rd_T116 l0 x13_1).f1.f2) _ _ ((rd_T116 l0 x13_1).f1.f3) ((rd_T116 l1 x13_1).f1.f0) ((rd_T116 l1 x13_1).f1.f1) ((rd_T116 l1 x13_1).f1.f2) _ _ ((rd_T116 l1 x13_1).f1.f3) false _ ?side1 ?side2 ?side3 ?side4 A16.out).mono ?_
      (case side1 => exact zq214)
      (case side2 => exact HC111_4.out)
      (case side3 => exact zq215)
      (case side4 => exact HC112_4.out)
      rintro e w23 ⟨rfl, hb⟩
      refine ⟨_, rfl, ?_⟩
      replace HB := zA (below_step zq0 hb)
      (try clear hb)
      (try clear hb2)
      (try clear hk)
      (try clear hi)
      refine hK.out _ _ ⟨(zcl HB.out hw108_0 :), (zcl HB.out hw108_1 :), (zcl HB.out hw108_2 :), (zcl HB.out hw108_3 :), (zcl HB.out hw108_4 :), (zcl HB.out hw109_0 :), (zcl HB.out hw109_1 :), (zcl HB.out hw109_2 :), (zcl HB.out hw109_3 :), (zcl HB.out hw109_4 :), (zcl HB.out hw111_0 :), (zcl HB.out hw111_1 :), (zcl HB.out hw111_2 :), (zcl HB.out hw111_3 :), (zcl HB.out hw111_4 :), (zcl HB.out hw112_0 :), (zcl HB.out hw112_1 :), (zcl HB.out hw112_2 :), (zcl HB.out hw112_3 :), (zcl HB.out hw112_4 :)⟩ (fun hHeld => ?_)
      clear hK K
      refine norm_ (a' := ?_) ?_ ?_
      rotate_left
      ·show Act.put _ (some 39) _ = _
       simp only [zvs, i64_w, i32_w]
       rfl
      refine zyt 24 40 (zv 26 33554431) ?_
      refine zyt 25 41 (zv 26 67108863) ?_
      refine done_ (done_of HT_.out (by kernel_rfl)) ?_
      go_upto_region 7 with fail
      obtain rfl := zi H
      go_wp2
      go_ret
      exact ⟨zq1, zq0⟩
     try go_wp2
     replace HB := zA (below_drew1 HB.out)
     have p108 : 0 ≤ (x13_1 : Int) := of_decide_eq_true zq13
     have q108 : x13_1 < (l0.length : Int) := of_decide_eq_true zq13
     obtain ⟨ad108, A108_0, c108_0, A108_4, c108_4, e108, hx108_0, hx108_1, hx108_2, hx108_3, hx108_4, hl108_0, hi108_0, hl108_4, hi108_4⟩ := at_T116 HR0.out x13_1 p108 q108
     have hw108_4 := hx108_4
     have hw108_3 := hx108_3
     have hw108_2 := hx108_2
     have hw108_1 := hx108_1
     have hw108_0 := hx108_0
     cases e108
     replace hx108_0 := zcl HB.out hx108_0
     replace hx108_1 := zcl HB.out hx108_1
     replace hx108_2 := zcl HB.out hx108_2
     replace hx108_3 := zcl HB.out hx108_3
     replace hx108_4 := zcl HB.out hx108_4
     have HR108_0 := zA hi108_0
     have HC108_0 := zA hl108_0
     clear hi108_0 hl108_0
     have HR108_4 := zA hi108_4
     have HC108_4 := zA hl108_4
     clear hi108_4 hl108_4
     replace p108 := eq_true p108
     replace q108 := eq_true q108
     have p109 : 0 ≤ (x13_1 : Int) := of_decide_eq_true zq13
     have q109 : x13_1 < (l1.length : Int) := of_decide_eq_true zq13
     obtain ⟨ad109, A109_0, c109_0, A109_4, c109_4, e109, hx109_0, hx109_1, hx109_2, hx109_3, hx109_4, hl109_0, hi109_0, hl109_4, hi109_4⟩ := at_T116 HR1.out x13_1 p109 q109
     have hw109_4 := hx109_4
     have hw109_3 := hx109_3
     have hw109_2 := hx109_2
     have hw109_1 := hx109_1
     have hw109_0 := hx109_0
     cases e109
     replace hx109_0 := zcl HB.out hx109_0
     replace hx109_1 := zcl HB.out hx109_1
     replace hx109_2 := zcl HB.out hx109_2
     replace hx109_3 := zcl HB.out hx109_3
     replace hx109_4 := zcl HB.out hx109_4
     have HR109_0 := zA hi109_0
     have HC109_0 := zA hl109_0
     clear hi109_0 hl109_0
     have HR109_4 := zA hi109_4
     have HC109_4 := zA hl109_4
     clear hi109_4 hl109_4
     replace p109 := eq_true p109
     replace q109 := eq_true q109
     refine start_ (n := 26) (S := fun w' => w'.cell? (ad108.add ((x13_1).toNat * 5)) = some (.slice A108_0 ((rd_T116 l0 x13_1).f0).length c108_0) ∧ w'.cell? ⟨(ad108.add ((x13_1).toNat * 5)).block, (ad108.add ((x13_1).toNat * 5)).off + 1, none⟩ = some (.int .i64 ((rd_T116 l0 x13_1).f1.f0)) ∧ w'.cell? ⟨(ad108.add ((x13_1).toNat * 5)).block, (ad108.add ((x13_1).toNat * 5)).off + 2, none⟩ = some (.int .i64 ((rd_T116 l0 x13_1).f1.f1)) ∧ w'.cell? ⟨(ad108.add ((x13_1).toNat * 5)).block, (ad108.add ((x13_1).toNat * 5)).off + 3, none⟩ = some (.string ((rd_T116 l0 x13_1).f1.f2)) ∧ w'.cell? ⟨(ad108.add ((x13_1).toNat * 5)).block, (ad108.add ((x13_1).toNat * 5)).off + 4, none⟩ = some (.slice A108_4 ((rd_T116 l0 x13_1).f1.f3).length c108_4) ∧ w'.cell? (ad109.add ((x13_1).toNat * 5)) = some (.slice A109_0 ((rd_T116 l1 x13_1).f0).length c109_0) ∧ w'.cell? ⟨(ad109.add ((x13_1).toNat * 5)).block, (ad109.add ((x13_1).toNat * 5)).off + 1, none⟩ = some (.int .i64 ((rd_T116 l1 x13_1).f1.f0)) ∧ w'.cell? ⟨(ad109.add ((x13_1).toNat * 5)).block, (ad109.add ((x13_1).toNat * 5)).off + 2, none⟩ = some (.int .i64 ((rd_T116 l1 x13_1).f1.f1)) ∧ w'.cell? ⟨(ad109.add ((x13_1).toNat * 5)).block, (ad109.add ((x13_1).toNat * 5)).off + 3, none⟩ = some (.string ((rd_T116 l1 x13_1).f1.f2)) ∧ w'.cell? ⟨(ad109.add ((x13_1).toNat * 5)).block, (ad109.add ((x13_1).toNat * 5)).off + 4, none⟩ = some (.slice A109_4 ((rd_T116 l1 x13_1).f1.f3).length c109_4)) (ds := []) (zv 26 0) (by kernel_rfl) rfl rfl ⟨(zcl HB.out hw108_0 :), (zcl HB.out hw108_1 :), (zcl HB.out hw108_2 :), (zcl HB.out hw108_3 :), (zcl HB.out hw108_4 :), (zcl HB.out hw109_0 :), (zcl HB.out hw109_1 :), (zcl HB.out hw109_2 :), (zcl HB.out hw109_3 :), (zcl HB.out hw109_4 :)⟩ (fun hHeld => ?_); refine with_tabW impl_SameBinds.tab6 impl_SameBinds.bits6 (fun HT_ HW_ => ?_)
     generalize wr.drew = w25 at HB HR108_0 HR108_4 HR109_0 HR109_4 hx108_0 hx108_1 hx108_2 hx108_3 hx108_4 hx109_0 hx109_1 hx109_2 hx109_3 hx109_4 hHeld ⊢
     refine zyt 0 16 (zv 26 1) ?_
     refine zyt 1 17 (zv 26 3) ?_
     refine zyt 2 18 (zv 26 7) ?_
     refine zyt 3 19 (zv 26 15) ?_
     refine zyt 5 21 (zv 26 47) ?_
     refine zyt 6 22 (zv 26 111) ?_
     refine zyt 7 23 (zv 26 239) ?_
     refine zyt 8 24 (zv 26 495) ?_
     refine take_ (i := 4) (N := some 20) (v := ?_) (a' := ?_) (zv 26 511) rfl rfl (take_ofW HT_.out HW_.out (by kernel_rfl)) (fun _ _ _ h => h) (Or.inl ⟨zq94, ?_⟩) hHeld ?_ ?_
     rotate_left
     ·rintro w' ⟨s0, s1, s2, s3, s4, s5, s6, s7, s8, s9⟩
      go_simp
      with_reducible rfl
     rotate_left
     ·simp only [zvs, i64_w, i32_w]
      rfl
     refine take_ (i := 9) (N := some 25) (v := ?_) (a' := ?_) (zv 26 1023) rfl rfl (take_ofW HT_.out HW_.out (by kernel_rfl)) (fun _ _ _ h => h) (Or.inl ⟨zq94, ?_⟩) hHeld ?_ ?_
     rotate_left
     ·rintro w' ⟨s0, s1, s2, s3, s4, s5, s6, s7, s8, s9⟩
      go_simp
      with_reducible rfl
     rotate_left
     ·simp only [zvs, i64_w, i32_w]
      rfl
     refine one_ (i := 10) (N := some 26) (zv 26 2047) rfl rfl (one_of HT_.out (by kernel_rfl)) zq52 (fun K hK => ?_)
     refine goes_ Try.func128 (by kernel_rfl) rfl #[.slice A108_0 ((rd_T116 l0 x13_1).f0).length c108_0, .slice A109_0 ((rd_T116 l1 x13_1).f0).length c109_0] zq94 rfl rfl zq20 ?_
     with_reducible refine (impl_SameOid.calls k1 _ _ ((rd_T116 l0 x13_1).f0) _ _ ((rd_T116 l1 x13_1).f0) false _ ?side1 ?side2 ?side3 ?side4 A14.out).mono ?_
     (case side1 => exact zq194)
     (case side2 => exact HC108_0.out)
     (case side3 => exact zq195)
     (case side4 => exact HC109_0.out)
     rintro e w' ⟨rfl, ⟨nd, rfl⟩⟩
     refine ⟨_, rfl, ?_⟩
     refine hK.out _ _ ⟨(zcl HB.out hw108_0 :), (zcl HB.out hw108_1 :), (zcl HB.out hw108_2 :), (zcl HB.out hw108_3 :), (zcl HB.out hw108_4 :), (zcl HB.out hw109_0 :), (zcl HB.out hw109_1 :), (zcl HB.out hw109_2 :), (zcl HB.out hw109_3 :), (zcl HB.out hw109_4 :)⟩ (fun hHeld => ?_)
     clear hK K
     refine norm_ (a' := ?_) ?_ ?_
     rotate_left
     ·show Act.put _ (some 26) _ = _
      simp only [zvs, i64_w, i32_w]
      rfl
     refine zyt 11 27 (zv 26 4095) ?_
     refine zyt 12 28 (zv 26 8191) ?_
     refine pure_ (i := 13) (N := some 29) (v := undef) (a' := ?_) (zv 26 16383) rfl rfl (any_of HT_.out (by kernel_rfl)) (fun _ _ _ h => h) (Or.inr ⟨zq94, rfl⟩) ?_ ?_
     rotate_left
     ·simp only [zvs, i64_w, i32_w]
      rfl
     refine pure_ (i := 14) (N := some 30) (v := undef) (a' := ?_) (zv 26 32767) rfl rfl (any_of HT_.out (by kernel_rfl)) (fun _ _ _ h => h) (Or.inr ⟨zq94, rfl⟩) ?_ ?_
     rotate_left
     ·simp only [zvs, i64_w, i32_w]
      rfl
     refine pure_ (i := 15) (N := some 31) (v := undef) (a' := ?_) (zv 26 65535) rfl rfl (any_of HT_.out (by kernel_rfl)) (fun _ _ _ h => h) (Or.inr ⟨zq94, rfl⟩) ?_ ?_
     rotate_left
     ·simp only [zvs, i64_w, i32_w]
      rfl
     refine pure_ (i := 16) (N := some 32) (v := undef) (a' := ?_) (zv 26 131071) rfl rfl (any_of HT_.out (by kernel_rfl)) (fun _ _ _ h => h) (Or.inr ⟨zq94, rfl⟩) ?_ ?_
     rotate_left
     ·simp only [zvs, i64_w, i32_w]
      rfl
     refine pure_ (i := 17) (N := some 33) (v := undef) (a' := ?_) (zv 26 262143) rfl rfl (any_of HT_.out (by kernel_rfl)) (fun _ _ _ h => h) (Or.inr ⟨zq94, rfl⟩) ?_ ?_
     rotate_left
     ·simp only [zvs, i64_w, i32_w]
      rfl
     refine pure_ (i := 18) (N := some 34) (v := undef) (a' := ?_) (zv 26 524287) rfl rfl (any_of HT_.out (by kernel_rfl)) (fun _ _ _ h => h) (Or.inr ⟨zq94, rfl⟩) ?_ ?_
     rotate_left
     ·simp only [zvs, i64_w, i32_w]
      rfl
     refine pure_ (i := 19) (N := some 35) (v := undef) (a' := ?_) (zv 26 1048575) rfl rfl (any_of HT_.out (by kernel_rfl)) (fun _ _ _ h => h) (Or.inr ⟨zq94, rfl⟩) ?_ ?_
     rotate_left
     ·simp only [zvs, i64_w, i32_w]
      rfl
     refine pure_ (i := 20) (N := some 36) (v := undef) (a' := ?_) (zv 26 2097151) rfl rfl (any_of HT_.out (by kernel_rfl)) (fun _ _ _ h => h) (Or.inr ⟨zq94, rfl⟩) ?_ ?_
     rotate_left
     ·simp only [zvs, i64_w, i32_w]
      rfl
     refine pure_ (i := 21) (N := some 37) (v := undef) (a' := ?_) (zv 26 4194303) rfl rfl (any_of HT_.out (by kernel_rfl)) (fun _ _ _ h => h) (Or.inr ⟨zq94, rfl⟩) ?_ ?_
     rotate_left
     ·simp only [zvs, i64_w, i32_w]
      rfl
     refine pure_ (i := 22) (N := some 38) (v := undef) (a' := ?_) (zv 26 8388607) rfl rfl (any_of HT_.out (by kernel_rfl)) (fun _ _ _ h => h) (Or.inr ⟨zq94, rfl⟩) ?_ ?_
     rotate_left
     ·simp only [zvs, i64_w, i32_w]
      rfl
     refine pure_ (i := 23) (N := some 39) (v := undef) (a' := ?_) (zv 26 16777215) rfl rfl (any_of HT_.out (by kernel_rfl)) (fun _ _ _ h => h) (Or.inr ⟨zq94, rfl⟩) ?_ ?_
     rotate_left
     ·simp only [zvs, i64_w, i32_w]
      rfl
     refine pure_ (i := 24) (N := some 40) (v := undef) (a' := ?_) (zv 26 33554431) rfl rfl (any_of HT_.out (by kernel_rfl)) (fun _ _ _ h => h) (Or.inr ⟨zq94, rfl⟩) ?_ ?_
     rotate_left
     ·simp only [zvs, i64_w, i32_w]
      rfl
     refine zyt 25 41 (zv 26 67108863) ?_
     refine done_ (done_of HT_.out (by kernel_rfl)) ?_
     go_upto_region 7 with fail
     obtain rfl := zi H
     go_wp2
     go_ret
     exact ⟨zq1, zq0⟩
    go_upto_region 9 with fail
    obtain rfl := zi H
    go_wp2
    go_ret
    exact ⟨zq1, zq0⟩
 have c5b0 : ((l0.length : Int) == (l1.length : Int)) = false := beq_eq_false_iff_ne.mpr c5
 have c5b1 : ((l0.length : Int) != (l1.length : Int)) = true := bne_iff_ne.mpr c5
 have c5b2 : (l0.length == l1.length) = false := by first | simpa using c5 | (simp at c5 ⊢; omega)
 go_upto_region 2 with fail
 obtain rfl := zi H
 go_wp2
 go_ret
 exact ⟨zq1, zq0⟩

end Go.Proofs.Ytkcgghgkmgbphaa.PFnMsgs
