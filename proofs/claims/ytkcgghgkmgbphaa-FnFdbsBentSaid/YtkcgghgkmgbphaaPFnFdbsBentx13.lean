-- WRITTEN BY a turned copy of the kit's printer (wip/patch_print.py), for this claim
import Derived.Test.YtkcgghgkmgbphaaPFnFdbsBentx0
import Derived.Test.YtkcgghgkmgbphaaPFnFdbsBentx4
import Derived.Test.YtkcgghgkmgbphaaPFnFdbsBentx6
import Derived.Test.YtkcgghgkmgbphaaPFnFdbsBentx11
import Derived.Test.YtkcgghgkmgbphaaPFnFdbsBentx12
namespace Go.Proofs.Ytkcgghgkmgbphaa.PFnFdbsBent
open Go.RowKit Go.Proofs.YtkcgghgkmgbphaaW.PrintWords Go.Proofs.YtkcgghgkmgbphaaW.PrintLast Go.Proofs.YtkcgghgkmgbphaaW.PrintMore
attribute [local go_sem] max2_int min2_int max_two min_two max_three min_three max_four min_four   -- for this text's walks alone
set_option linter.unusedVariables false
set_option linter.unusedSimpArgs false

attribute [local go_sem] cell_setCell_m
/-! ### impl_DropStatic: function 53 -/
def impl_DropStatic.l0 : Nat → List (S49) → Int → Int → List (S49) → Int → Int → Option ((List (S49)) × Bool)
 | 0, _, _, _, _, _, _ => none
 | k + 1, x0, x1, x2, x10, x11, x12 => if x12 < x11 then (if 0 ≤ x12 then (if x12 < (x10.length : Int) then (if (rd_T49 x10 x12).f4 = true then (if ((rd_T49 x10 x12).f0) = x1 then (if ((rd_T49 x10 x12).f1) = x2 then (if x12 ≤ (x0.length : Int) then ((impl_copyFdb.f (x0.take (x12 : Int).toNat)).bind fun t442 => (if 0 ≤ (wrap64 (x12 + 1)) then (if (wrap64 (x12 + 1)) ≤ (x0.length : Int) then ((some (x0.drop ((wrap64 (x12 + 1)) : Int).toNat : List (S49))).bind fun y445 => (if t442.length + y445.length < 3518437208883 then (some ((t442 ++ y445), true)) else (none))) else (none)) else (none))) else (none)) else (impl_DropStatic.l0 k x0 x1 x2 x10 x11 (wrap64 (x12 + 1)))) else (impl_DropStatic.l0 k x0 x1 x2 x10 x11 (wrap64 (x12 + 1)))) else (impl_DropStatic.l0 k x0 x1 x2 x10 x11 (wrap64 (x12 + 1)))) else (none)) else (none)) else ((impl_copyFdb.f x0).bind fun t452 => (some (t452, false)))
def impl_DropStatic.f (k : Nat) (l0 : List (S49)) (a1 : Int) (a2 : Int) : Option ((List (S49)) × Bool) := impl_DropStatic.l0 k l0 a1 a2 l0 (l0.length : Int) 0
theorem impl_DropStatic.mono_l : ∀ k, (∀ y0 y1 y2 y3 y4 y5, LeO (impl_DropStatic.l0 k y0 y1 y2 y3 y4 y5) (impl_DropStatic.l0 (k + 1) y0 y1 y2 y3 y4 y5))
 | 0 => fun _ _ _ _ _ _ r h => by simp [impl_DropStatic.l0] at h
 | k + 1 => by
  have ih0 := impl_DropStatic.mono_l k
  ·intro y0 y1 y2 y3 y4 y5
   unfold impl_DropStatic.l0
   repeat' first
   | (with_reducible exact ih0 _ _ _ _ _ _)
   | (with_reducible exact LeO.refl _)
   | (with_reducible exact LeO.none _)
   | (with_reducible refine LeO.ite ?_ ?_)
   | (with_reducible refine LeO.bind ?_ (fun _ => ?_))
   | exact ih0 _ _ _ _ _ _
   | exact LeO.none _
   | refine LeO.ite ?_ ?_
   | refine LeO.bind ?_ (fun _ => ?_)
theorem impl_DropStatic.mono : ∀ a0 a1 a2 k, LeO (impl_DropStatic.f k a0 a1 a2) (impl_DropStatic.f (k + 1) a0 a1 a2) := by
 intro a0 a1 a2 k
 have ih0 := impl_DropStatic.mono_l k
 unfold impl_DropStatic.f
 repeat' first
   | (with_reducible exact ih0 _ _ _ _ _ _)
   | (with_reducible exact LeO.refl _)
   | (with_reducible exact LeO.none _)
   | (with_reducible refine LeO.ite ?_ ?_)
   | (with_reducible refine LeO.bind ?_ (fun _ => ?_))
   | exact ih0 _ _ _ _ _ _
   | exact LeO.none _
   | refine LeO.ite ?_ ?_
   | refine LeO.bind ?_ (fun _ => ?_)
def impl_DropStatic.T5 : Bool × List (List Nat × List Nat) := (true, [([], []), ([], []), ([0, 1], [0, 1]), ([2], [2]), ([], []), ([], []), ([5], [5]), ([4, 6], [4, 6]), ([3, 7, 3], [3, 7]), ([8, 8, 0, 1, 2, 3, 4, 5, 6, 7, 8], [8]), ([9, 0, 1, 2, 3, 4, 5, 6, 7, 8, 9], [])])
def impl_DropStatic.B5 : List Nat := [0, 0, 3, 7, 0, 0, 32, 112, 255, 511, 1023]
theorem impl_DropStatic.tab5 : rtab .any (opsOf Try.f53 5) = impl_DropStatic.T5 := by kernel_rfl
theorem impl_DropStatic.bits5 : waitsOk impl_DropStatic.T5.2 impl_DropStatic.B5 = true := by kernel_rfl
set_option maxHeartbeats 8000000 in
set_option maxRecDepth 100000 in
theorem impl_DropStatic.calls (k : Nat) (A0 : Option Addr) (c0 : Nat) (l0 : List (S49)) (a1 : Int) (a2 : Int) (r1 : List (S49)) (r2 : Bool) (w : World) (hr0 : Kd.C k49 w A0 l0.length l0) (hc0 : l0.length ≤ c0) (h : impl_DropStatic.f k l0 a1 a2 = some (r1, r2)) :
  Calls Try.prog 53 #[.slice A0 l0.length c0, .int .i64 a1, .int .i64 a2] w fun e w' => ∃ v0_ : Value, e = .returned (.tuple #[v0_, .bool r2]) ∧ Kd.R k49 49 w' w.heap.size (fun _ => True) v0_ r1 ∧ Below w.heap.size w w' := by
 have hu49 := Try.underlying49
 have HR0 := zA hr0
 have HC0 := zA hc0
 clear hr0 hc0
 have HB := zA (Below.refl w.heap.size w)
 have H : (impl_DropStatic.l0 k l0 a1 a2 l0 (l0.length : Int) 0) = some (r1, r2) := h
 clear h
 have H' := zA H
 clear H
 go_enter Try.func53, Try.ntmps53
 go_wp2
 go_loopg [12] k (fun kq v12 w' => ∃ (x12_1 : Int), v12 = .int .i64 x12_1 ∧ Aside0 (impl_DropStatic.l0 kq l0 a1 a2 l0 (l0.length : Int) x12_1 = some (r1, r2)) ∧ Aside0 (kq ≤ k) ∧ Aside0 (Below w.heap.size w w'))
 case atStart => exact ⟨(0), zq15, H', ⟨Nat.le_refl _⟩, ⟨by repeat (first | (with_reducible first | exact HB.out | apply below_alloc | apply pw_below_drewN | apply below_drew1) | exact HB.out)⟩⟩
 case round =>
  clear H'
  try clear p2
  obtain ⟨x12_1, rfl, HA, HK1, HB⟩ := hrel
  cases gk with
  | zero => exact absurd HA.out (by simp [impl_DropStatic.l0])
  | succ k1 =>
   have H := HA.out
   clear HA
   simp only [impl_DropStatic.l0] at H
   by_cases c4 : x12_1 < (l0.length : Int)
   ·rw [if_pos c4] at H
    have c4b0 : decide (x12_1 < (l0.length : Int)) = true := decide_eq_true c4
    clear c4
    by_cases c5 : 0 ≤ x12_1
    ·rw [if_pos c5] at H
     have c5b0 : decide (0 ≤ x12_1) = true := decide_eq_true c5
     clear c5
     by_cases c6 : x12_1 < (l0.length : Int)
     ·rw [if_pos c6] at H
      have c6b0 : decide (x12_1 < (l0.length : Int)) = true := decide_eq_true c6
      clear c6
      obtain ⟨bq7, hbq7⟩ : ∃ b_ : Bool, b_ = ((rd_T49 l0 x12_1).f4) := ⟨_, rfl⟩
      replace H : (if bq7 = true then (if ((rd_T49 l0 x12_1).f0) = a1 then (if ((rd_T49 l0 x12_1).f1) = a2 then (if x12_1 ≤ (l0.length : Int) then ((impl_copyFdb.f (l0.take (x12_1 : Int).toNat)).bind fun t442 => (if 0 ≤ (wrap64 (x12_1 + 1)) then (if (wrap64 (x12_1 + 1)) ≤ (l0.length : Int) then ((some (l0.drop ((wrap64 (x12_1 + 1)) : Int).toNat : List (S49))).bind fun y445 => (if t442.length + y445.length < 3518437208883 then (some ((t442 ++ y445), true)) else (none))) else (none)) else (none))) else (none)) else (impl_DropStatic.l0 k1 l0 a1 a2 l0 (l0.length : Int) (wrap64 (x12_1 + 1)))) else (impl_DropStatic.l0 k1 l0 a1 a2 l0 (l0.length : Int) (wrap64 (x12_1 + 1)))) else (impl_DropStatic.l0 k1 l0 a1 a2 l0 (l0.length : Int) (wrap64 (x12_1 + 1)))) = some (r1, r2) := by rw [← hbq7] at H; exact H
      have Nbq7 := zA hbq7
      clear hbq7
      by_cases c8 : bq7 = true
      ·subst c8
       rw [if_pos rfl] at H
       by_cases c9 : ((rd_T49 l0 x12_1).f0) = a1
       ·rw [if_pos c9] at H
        have c9b0 : (((rd_T49 l0 x12_1).f0) == a1) = true := beq_iff_eq.mpr c9
        have c9b1 : (((rd_T49 l0 x12_1).f0) != a1) = false := bne_eq_false_iff_eq.mpr c9
        clear c9
        by_cases c10 : ((rd_T49 l0 x12_1).f1) = a2
        ·rw [if_pos c10] at H
         have c10b0 : (((rd_T49 l0 x12_1).f1) == a2) = true := beq_iff_eq.mpr c10
         have c10b1 : (((rd_T49 l0 x12_1).f1) != a2) = false := bne_eq_false_iff_eq.mpr c10
         clear c10
         have c11b0 := eq_true (of_decide_eq_true zq6 : 0 ≤ x12_1)
         by_cases c12 : x12_1 ≤ (l0.length : Int)
         ·rw [if_pos c12] at H
          have c12b0 := eq_true c12
          have c12b1 : decide (x12_1 ≤ (l0.length : Int)) = true := decide_eq_true c12
          clear c12
          obtain ⟨y438, hy438⟩ : ∃ y_ : List (S49), y_ = (l0.take (x12_1 : Int).toNat) := ⟨_, rfl⟩
          replace H : ((impl_copyFdb.f y438).bind fun t442 => (if 0 ≤ (wrap64 (x12_1 + 1)) then (if (wrap64 (x12_1 + 1)) ≤ (l0.length : Int) then ((some (l0.drop ((wrap64 (x12_1 + 1)) : Int).toNat : List (S49))).bind fun y445 => (if t442.length + y445.length < 3518437208883 then (some ((t442 ++ y445), true)) else (none))) else (none)) else (none))) = some (r1, r2) := by first | (rw [hy438]; with_reducible exact H) | (have H2_ := (Option.bind_some _ _).symm.trans H; rw [hy438]; with_reducible exact H2_) | (have H2_ := (Option.bind_some _ _).symm.trans H; with_reducible exact H2_) | with_reducible exact H | (rw [hy438]; exact H) | exact H
          have Ny438 := zA hy438
          clear hy438
          obtain ⟨t442, A13, H⟩ := zB H
          try dsimp only at H
          obtain ⟨ji14, hji14⟩ : ∃ j_ : Int, (wrap64 (x12_1 + 1)) = j_ := ⟨_, rfl⟩
          replace H : (if 0 ≤ (ji14) then (if (ji14) ≤ (l0.length : Int) then ((some (l0.drop ((ji14) : Int).toNat : List (S49))).bind fun y445 => (if t442.length + y445.length < 3518437208883 then (some ((t442 ++ y445), true)) else (none))) else (none)) else (none)) = some (r1, r2) := by first | (rw [hji14] at H; exact H) | (simp only [hji14] at H ⊢; exact H)
          (try rw [hji14] at A13)
          have hji14w : (IntKind.i64.wrap (x12_1 + 1)) = ji14 := (i64_w _).trans hji14
          by_cases c15 : 0 ≤ (ji14)
          ·rw [if_pos c15] at H
           have c15b0 := eq_true c15
           have c15b1 : decide (0 ≤ (ji14)) = true := decide_eq_true c15
           clear c15
           by_cases c16 : (ji14) ≤ (l0.length : Int)
           ·rw [if_pos c16] at H
            have c16b0 := eq_true c16
            have c16b1 : decide ((ji14) ≤ (l0.length : Int)) = true := decide_eq_true c16
            clear c16
            obtain ⟨y445, hy445⟩ : ∃ y_ : List (S49), y_ = (l0.drop ((ji14) : Int).toNat) := ⟨_, rfl⟩
            replace H : (if t442.length + y445.length < 3518437208883 then (some ((t442 ++ y445), true)) else (none)) = some (r1, r2) := by first | (rw [hy445]; with_reducible exact H) | (have H2_ := (Option.bind_some _ _).symm.trans H; rw [hy445]; with_reducible exact H2_) | (have H2_ := (Option.bind_some _ _).symm.trans H; with_reducible exact H2_) | with_reducible exact H | (rw [hy445]; exact H) | exact H
            have Ny445 := zA hy445
            clear hy445
            by_cases c17 : t442.length + y445.length < 3518437208883
            ·rw [if_pos c17] at H
             have LMc17 := zA c17
             clear c17
             obtain ⟨y449, hy449⟩ : ∃ y_ : List (S49), y_ = (t442 ++ y445) := ⟨_, rfl⟩
             replace H : (some (y449, true)) = some (r1, r2) := by first | (rw [hy449]; with_reducible exact H) | (have H2_ := (Option.bind_some _ _).symm.trans H; rw [hy449]; with_reducible exact H2_) | (have H2_ := (Option.bind_some _ _).symm.trans H; with_reducible exact H2_) | with_reducible exact H | (rw [hy449]; exact H) | exact H
             have Ny449 := zA hy449
             clear hy449
             simp only [Option.some.injEq, Prod.mk.injEq] at H
             obtain ⟨rfl, rfl⟩ := H
             have p436 : 0 ≤ (x12_1 : Int) := of_decide_eq_true zq6
             have q436 : x12_1 < (l0.length : Int) := of_decide_eq_true zq6
             obtain ⟨ad436, e436, hx436_0, hx436_1, hx436_2, hx436_3, hx436_4⟩ := at_T49 HR0.out x12_1 p436 q436
             (try rw [← Nbq7.out] at hx436_4)
             cases e436
             replace hx436_0 := (HB.out.cell (World.block_lt_of_cell? w _ hx436_0)).trans hx436_0
             replace hx436_1 := (HB.out.cell (World.block_lt_of_cell? w _ hx436_1)).trans hx436_1
             replace hx436_2 := (HB.out.cell (World.block_lt_of_cell? w _ hx436_2)).trans hx436_2
             replace hx436_3 := (HB.out.cell (World.block_lt_of_cell? w _ hx436_3)).trans hx436_3
             replace hx436_4 := (HB.out.cell (World.block_lt_of_cell? w _ hx436_4)).trans hx436_4
             replace p436 := eq_true p436
             replace q436 := eq_true q436
             try go_wp2_with (first | ((with_reducible refine gate_dst (N := 9) rfl ?_); refine box_event ?hg (N := 9) ?hd (cs := #[.int .i64 0, .int .i64 0, .int .i64 0, .int .i64 0, .bool false]) (t := 49) ?hr ?_; (case hd => rfl); (case hg => rfl); (case hr => first | (go_simp; done) | (go_simp; rfl)); intro gb437 hg w18 hbox hb; have BK437 := zA (hbox); have GW437 := zA ((zq3 : w.heap.size ≤ gb437)); have GE437 := zA ((zq3 : w.heap.size ≤ gb437)); replace HB := zA (below_step zq0 hb); clear hb hbox hg; have hcz19_0 : w18.cell? ⟨gb437, 0, none⟩ = some (.int .i64 0) := (blk_cell BK437.out 0).trans rfl; have hcz19_1 : w18.cell? ⟨gb437, 1, none⟩ = some (.int .i64 0) := (blk_cell BK437.out 1).trans rfl; have hcz19_2 : w18.cell? ⟨gb437, 2, none⟩ = some (.int .i64 0) := (blk_cell BK437.out 2).trans rfl; have hcz19_3 : w18.cell? ⟨gb437, 3, none⟩ = some (.int .i64 0) := (blk_cell BK437.out 3).trans rfl; have hcz19_4 : w18.cell? ⟨gb437, 4, none⟩ = some (.bool false) := (blk_cell BK437.out 4).trans rfl; have hfz19_0 := blk_frozen BK437.out 0; have hfz19_1 := blk_frozen BK437.out 1; have hfz19_2 := blk_frozen BK437.out 2; have hfz19_3 := blk_frozen BK437.out 3; have hfz19_4 := blk_frozen BK437.out 4))
             have n0_ : Aside0 ((((((w18.setCell ⟨gb437, 0, none⟩ (.int .i64 ((rd_T49 l0 x12_1).f0))).setCell ⟨gb437, 1, none⟩ (.int .i64 ((rd_T49 l0 x12_1).f1))).setCell ⟨gb437, 2, none⟩ (.int .i64 ((rd_T49 l0 x12_1).f2))).setCell ⟨gb437, 3, none⟩ (.int .i64 ((rd_T49 l0 x12_1).f3))).setCell ⟨gb437, 4, none⟩ (.bool true)).heap[gb437]? = some (.cells #[.int .i64 ((rd_T49 l0 x12_1).f0), .int .i64 ((rd_T49 l0 x12_1).f1), .int .i64 ((rd_T49 l0 x12_1).f2), .int .i64 ((rd_T49 l0 x12_1).f3), .bool true] 49 (0, 0))) := ⟨by (with_reducible repeat (first | refine blk_drewN ?_ _ | refine blk_drew ?_ | refine blk_alloc ?_ _)); refine blk_put (cs := #[.int .i64 ((rd_T49 l0 x12_1).f0), .int .i64 ((rd_T49 l0 x12_1).f1), .int .i64 ((rd_T49 l0 x12_1).f2), .int .i64 ((rd_T49 l0 x12_1).f3), .bool false]) ?_ 4 _ rfl; (with_reducible repeat (first | refine blk_drewN ?_ _ | refine blk_drew ?_ | refine blk_alloc ?_ _)); refine blk_put (cs := #[.int .i64 ((rd_T49 l0 x12_1).f0), .int .i64 ((rd_T49 l0 x12_1).f1), .int .i64 ((rd_T49 l0 x12_1).f2), .int .i64 0, .bool false]) ?_ 3 _ rfl; (with_reducible repeat (first | refine blk_drewN ?_ _ | refine blk_drew ?_ | refine blk_alloc ?_ _)); refine blk_put (cs := #[.int .i64 ((rd_T49 l0 x12_1).f0), .int .i64 ((rd_T49 l0 x12_1).f1), .int .i64 0, .int .i64 0, .bool false]) ?_ 2 _ rfl; (with_reducible repeat (first | refine blk_drewN ?_ _ | refine blk_drew ?_ | refine blk_alloc ?_ _)); refine blk_put (cs := #[.int .i64 ((rd_T49 l0 x12_1).f0), .int .i64 0, .int .i64 0, .int .i64 0, .bool false]) ?_ 1 _ rfl; (with_reducible repeat (first | refine blk_drewN ?_ _ | refine blk_drew ?_ | refine blk_alloc ?_ _)); refine blk_put (cs := #[.int .i64 0, .int .i64 0, .int .i64 0, .int .i64 0, .bool false]) ?_ 0 _ rfl; (with_reducible repeat (first | refine blk_drewN ?_ _ | refine blk_drew ?_ | refine blk_alloc ?_ _)); exact BK437.out⟩
             have n1_ : Aside0 (Below w.heap.size w (((((w18.setCell ⟨gb437, 0, none⟩ (.int .i64 ((rd_T49 l0 x12_1).f0))).setCell ⟨gb437, 1, none⟩ (.int .i64 ((rd_T49 l0 x12_1).f1))).setCell ⟨gb437, 2, none⟩ (.int .i64 ((rd_T49 l0 x12_1).f2))).setCell ⟨gb437, 3, none⟩ (.int .i64 ((rd_T49 l0 x12_1).f3))).setCell ⟨gb437, 4, none⟩ (.bool true))) := ⟨by repeat (first | (with_reducible first | exact HB.out | apply below_alloc | apply pw_below_drewN | apply below_drew1 | refine below_set ?_ GE437.out) | exact HB.out)⟩
             (try clear BK437)
             (try clear HB)
             generalize (((((w18.setCell ⟨gb437, 0, none⟩ (.int .i64 ((rd_T49 l0 x12_1).f0))).setCell ⟨gb437, 1, none⟩ (.int .i64 ((rd_T49 l0 x12_1).f1))).setCell ⟨gb437, 2, none⟩ (.int .i64 ((rd_T49 l0 x12_1).f2))).setCell ⟨gb437, 3, none⟩ (.int .i64 ((rd_T49 l0 x12_1).f3))).setCell ⟨gb437, 4, none⟩ (.bool true)) = w20 at n0_ n1_ ⊢
             have BK437 := n0_
             have HB := n1_
             clear n0_ n1_
             have n0_ := zA (blk_drew BK437.out)
             have n1_ := zA (below_drew1 HB.out)
             clear BK437
             clear HB
             have BK437 := n0_
             have HB := n1_
             clear n0_ n1_
             have q22 : (x12_1 : Int) ≤ ((l0.length : Int) : Int) := of_decide_eq_true zq6
             obtain ⟨i022, hi022, _, hsz22, _⟩ := info_parts info49
             have hroom22 : l0.length ≤ c0 := HC0.out
             have hC22 : Kd.C k49 _ (some ad436) l0.length l0 := HR0.out
             have hcut22 := cut_to (P := Try.prog) 43 49 .i64 Try.underlying43 hi022 (some ad436) l0.length c0 x12_1 (of_decide_eq_true zq6) q22 hroom22
             have hr22 := Kd.C_take (m := (x12_1 : Int).toNat) hC22 zq66
             have hy22 : y438.length = (x12_1 : Int).toNat := (by rw [Ny438.out, List.length_take]; omega)
             rw [← Ny438.out] at hr22
             rw [← hy22] at hcut22
             have HR441 := zA hr22
             have HC441 := zA (show y438.length ≤ c0 from by omega)
             clear hr22 hC22 hroom22 hi022 hsz22
             have KY22 := zA hy22
             clear hy22
             replace q22 := eq_true q22
             have q23 : ((ji14) : Int) ≤ ((l0.length : Int) : Int) := of_decide_eq_true zq6
             obtain ⟨i023, hi023, _, hsz23, _⟩ := info_parts info49
             have hroom23 : l0.length ≤ c0 := HC0.out
             have hC23 : Kd.C k49 _ (some ad436) l0.length l0 := HR0.out
             have q023 : (0 : Int) ≤ ((ji14) : Int) := of_decide_eq_true zq6
             have hcut23 := cut_from (P := Try.prog) 43 49 .i64 Try.underlying43 hi023 5 hsz23 (some ad436) l0.length c0 (ji14) q023 q23
             have hr23 := Kd.C_drop (m := ((ji14) : Int).toNat) (c := c0) hC23 zq66 hroom23
             obtain ⟨A23, hA23⟩ : ∃ A1, A1 = (if c0 = ((ji14) : Int).toNat then (some ad436) else ((some ad436) : Option Addr).map (·.add (((ji14) : Int).toNat * 5))) := ⟨_, rfl⟩
             obtain ⟨c23, hc23⟩ : ∃ c1, c1 = c0 - ((ji14) : Int).toNat := ⟨_, rfl⟩
             have hy23 : y445.length = l0.length - ((ji14) : Int).toNat := (by rw [Ny445.out, List.length_drop] <;> omega)
             rw [show (l0).drop ((ji14) : Int).toNat = y445 from Ny445.out.symm] at hr23
             replace hr23 : Kd.C k49 _ A23 y445.length y445 := (by rw [hA23]; exact hr23)
             rw [← hy23, ← hA23, ← hc23] at hcut23
             have HR448 := zA hr23
             have HC448 := zA (show y445.length ≤ c23 from by rw [hy23, hc23]; exact Nat.sub_le_sub_right hroom23 _)
             clear hr23 hC23 hroom23 hi023 hsz23 hc23
             have KY23 := zA hy23
             have KA23 := zA hA23
             clear hy23 hA23
             replace q23 := eq_true q23
             refine start_ (n := 11) (S := fun w' => True) (ds := []) #[false, false, false, false, false, false, false, false, false, false, false] (by kernel_rfl) rfl rfl trivial (fun hHeld => ?_); refine with_tabW impl_DropStatic.tab5 impl_DropStatic.bits5 (fun HT_ HW_ => ?_)
             generalize w20.drew = w21 at BK437 HB HR441 HR448 hHeld ⊢
             refine pure_ (i := 0) (N := some 31) (v := ?_) (a' := ?_) #[true, false, false, false, false, false, false, false, false, false, false] rfl rfl (any_of HT_.out (by kernel_rfl)) (fun _ _ _ h => h) (Or.inl ⟨by rfl, ?_⟩) ?_ ?_
             rotate_left
             ·intro w'
              go_simp
              with_reducible rfl
             rotate_left
             ·simp only [Act.put, List.setIfInBounds_toArray, List.set_cons_zero, List.set_cons_succ, i64_w, i32_w]
              rfl
             refine pure_ (i := 1) (N := some 32) (v := ?_) (a' := ?_) #[true, true, false, false, false, false, false, false, false, false, false] rfl rfl (any_of HT_.out (by kernel_rfl)) (fun _ _ _ h => h) (Or.inl ⟨by rfl, ?_⟩) ?_ ?_
             rotate_left
             ·intro w'
              go_simp
              with_reducible rfl
             rotate_left
             ·simp only [Act.put, List.setIfInBounds_toArray, List.set_cons_zero, List.set_cons_succ, i64_w, i32_w]
              rfl
             refine pure_ (i := 2) (N := some 33) (v := ?_) (a' := ?_) #[true, true, true, false, false, false, false, false, false, false, false] rfl rfl (any_of HT_.out (by kernel_rfl)) (fun _ _ _ h => h) (Or.inl ⟨by rfl, ?_⟩) ?_ ?_
             rotate_left
             ·intro w'
              go_simp
              with_reducible rfl
             rotate_left
             ·simp only [Act.put, List.setIfInBounds_toArray, List.set_cons_zero, List.set_cons_succ, i64_w, i32_w]
              rfl
             refine pure_ (i := 4) (N := some 35) (v := ?_) (a' := ?_) #[true, true, true, false, true, false, false, false, false, false, false] rfl rfl (any_of HT_.out (by kernel_rfl)) (fun _ _ _ h => h) (Or.inl ⟨by rfl, ?_⟩) ?_ ?_
             rotate_left
             ·intro w'
              go_simp
              with_reducible rfl
             rotate_left
             ·simp only [Act.put, List.setIfInBounds_toArray, List.set_cons_zero, List.set_cons_succ, i64_w, i32_w]
              rfl
             refine pure_ (i := 5) (N := some 36) (v := ?_) (a' := ?_) #[true, true, true, false, true, true, false, false, false, false, false] rfl rfl (any_of HT_.out (by kernel_rfl)) (fun _ _ _ h => h) (Or.inl ⟨by rfl, ?_⟩) ?_ ?_
             rotate_left
             ·intro w'
              go_simp
              with_reducible rfl
             rotate_left
             ·simp only [Act.put, List.setIfInBounds_toArray, List.set_cons_zero, List.set_cons_succ, i64_w, i32_w]
              rfl
             refine pure_ (i := 6) (N := some 37) (v := ?_) (a' := ?_) #[true, true, true, false, true, true, true, false, false, false, false] rfl rfl (any_of HT_.out (by kernel_rfl)) (fun _ _ _ h => h) (Or.inl ⟨by rfl, ?_⟩) ?_ ?_
             rotate_left
             ·intro w'
              go_simp
              with_reducible rfl
             rotate_left
             ·simp only [Act.put, List.setIfInBounds_toArray, List.set_cons_zero, List.set_cons_succ, i64_w, i32_w]
              rfl
             refine pure_ (i := 7) (N := some 38) (v := ?_) (a' := ?_) #[true, true, true, false, true, true, true, true, false, false, false] rfl rfl (any_of HT_.out (by kernel_rfl)) (fun _ _ _ h => h) (Or.inl ⟨by rfl, ?_⟩) ?_ ?_
             rotate_left
             ·intro w'
              go_simp
              with_reducible rfl
             rotate_left
             ·simp only [Act.put, List.setIfInBounds_toArray, List.set_cons_zero, List.set_cons_succ, i64_w, i32_w]
              rfl
             refine one_ (i := 3) (N := some 34) #[true, true, true, true, true, true, true, true, false, false, false] rfl rfl (one_of HT_.out (by kernel_rfl)) zq40 (fun K hK => ?_)
             refine goes_ Try.func135 (by kernel_rfl) rfl #[.slice (some ad436) y438.length c0] zq74 rfl rfl zq1 ?_
             with_reducible refine (impl_copyFdb.calls _ _ y438 t442 _ ?side1 ?side2 A13.out).mono ?_
             (case side1 => repeat (first | exact (Kd.C_below HR441.out HB.out) | (with_reducible refine Kd.C_alloc ?_ _) | (with_reducible refine Kd.C_drewN ?_ _) | (with_reducible refine Kd.C_drew ?_)))
             (case side2 => exact HC441.out)
             rintro e w24 ⟨v443, rfl, ho0, hb⟩
             refine ⟨_, rfl, ?_⟩
             have n0_ := zA (Kd.R_lower (Kd.R_newB ho0 (g := gb437) (o := .cells #[.int .i64 ((rd_T49 l0 x12_1).f0), .int .i64 ((rd_T49 l0 x12_1).f1), .int .i64 ((rd_T49 l0 x12_1).f2), .int .i64 ((rd_T49 l0 x12_1).f3), .bool true] 49 (0, 0)) zq59) (below_size zq51))
             have n1_ := zA (blk_below (g := gb437) (o := .cells #[.int .i64 ((rd_T49 l0 x12_1).f0), .int .i64 ((rd_T49 l0 x12_1).f1), .int .i64 ((rd_T49 l0 x12_1).f2), .int .i64 ((rd_T49 l0 x12_1).f3), .bool true] 49 (0, 0)) zq59 hb)
             have n2_ := zA (below_step zq51 hb)
             clear BK437
             clear HB
             have HO444 := n0_
             have BK437 := n1_
             have HB := n2_
             clear n0_ n1_ n2_
             (try clear hb)
             (try clear hb2)
             (try clear hk)
             (try clear hi)
             (try clear ho0)
             refine hK.out _ _ trivial (fun hHeld => ?_)
             clear hK K
             refine norm_ (a' := ?_) ?_ ?_
             rotate_left
             ·show Act.put _ (some 34) _ = _
              simp only [Act.put, List.setIfInBounds_toArray, List.set_cons_zero, List.set_cons_succ, i64_w, i32_w]
              rfl
             refine one_ (i := 8) (N := some 39) #[true, true, true, true, true, true, true, true, true, false, false] rfl rfl (one_of HT_.out (by kernel_rfl)) zq40 (fun K hK => ?_)
             refine Kd.R_append_rows_step k49 (w0 := w) w.heap.size zq74 (.tmp 34) (.tmp 38) 43 49 (.agg #[(.int .i64 0), (.int .i64 0), (.int .i64 0), (.int .i64 0), (.bool false)]) 40 rfl Try.underlying43 info49 rfl zq40 zq66 v443 t442 y445 _ _ _ (fun k_ => k_ ≠ gb437) (fun _ => False) rfl rfl ?aO ?aR (fun _ _ h => h) (fun _ h => h.elim) ?aF ?aB ?aS ?aL ?_
             (case aR => repeat (first | exact (Kd.C_below HR448.out HB.out) | (with_reducible refine Kd.C_alloc ?_ _) | (with_reducible refine Kd.C_drewN ?_ _) | (with_reducible refine Kd.C_drew ?_)))
             (case aB => exact zq51)
             (case aF => exact (fun k_ hk => Kd.freshB (g := gb437) (o := .cells #[.int .i64 ((rd_T49 l0 x12_1).f0), .int .i64 ((rd_T49 l0 x12_1).f1), .int .i64 ((rd_T49 l0 x12_1).f2), .int .i64 ((rd_T49 l0 x12_1).f3), .bool true] 49 (0, 0)) zq59 k_ hk))
             (case aO => exact (by (with_reducible repeat (first | apply Kd.R_alloc | apply Kd.R_drewN | apply Kd.R_drew)); exact Kd.R_mono HO444.out (fun _ hk => hk.2)))
             (case aS => exact (below_size zq51))
             (case aL => have := LMc17.out; omega)
             intro v450 w25 ho hb hg hat
             rw [← Ny449.out] at ho
             have n0_ := zA (blk_grown (g := gb437) (o := .cells #[.int .i64 ((rd_T49 l0 x12_1).f0), .int .i64 ((rd_T49 l0 x12_1).f1), .int .i64 ((rd_T49 l0 x12_1).f2), .int .i64 ((rd_T49 l0 x12_1).f3), .bool true] 49 (0, 0)) zq59 hg (Kd.R_away HO444.out (fun _ hk => hk.2)))
             have n1_ := zA (hb)
             have n2_ := zA (ho)
             clear BK437
             clear HB
             clear HO444
             have BK437 := n0_
             have HB := n1_
             have HO451 := n2_
             clear n0_ n1_ n2_
             clear ho hb hg hat
             refine hK.out _ _ trivial (fun hHeld => ?_)
             clear hK K
             refine norm_ (a' := ?_) ?_ ?_
             rotate_left
             ·show Act.put _ (some 39) _ = _
              simp only [Act.put, List.setIfInBounds_toArray, List.set_cons_zero, List.set_cons_succ, i64_w, i32_w]
              rfl
             refine pure_ (i := 9) (N := some 6) (v := ?_) (a' := ?_) #[true, true, true, true, true, true, true, true, true, true, false] rfl rfl (any_of HT_.out (by kernel_rfl)) (fun _ _ _ h => h) (Or.inl ⟨by rfl, ?_⟩) ?_ ?_
             rotate_left
             ·intro w'
              go_simp
              with_reducible rfl
             rotate_left
             ·simp only [Act.put, List.setIfInBounds_toArray, List.set_cons_zero, List.set_cons_succ, i64_w, i32_w]
              rfl
             refine pure_ (i := 10) (N := some 7) (v := ?_) (a' := ?_) #[true, true, true, true, true, true, true, true, true, true, true] rfl rfl (any_of HT_.out (by kernel_rfl)) (fun _ _ _ h => h) (Or.inl ⟨by rfl, ?_⟩) ?_ ?_
             rotate_left
             ·intro w'
              go_simp
              with_reducible rfl
             rotate_left
             ·simp only [Act.put, List.setIfInBounds_toArray, List.set_cons_zero, List.set_cons_succ, i64_w, i32_w]
              rfl
             refine done_ (done_of HT_.out (by kernel_rfl)) ?_
             try go_wp2
             go_ret2
             exact ⟨_, by first | rfl | (simp [errW_none, errW_some] <;> rfl) | (simp only [← hji14]; first | rfl | (simp [errW_none, errW_some] <;> rfl)) | (simp [*, errW_none, errW_some] <;> rfl), by (with_reducible repeat (first | apply Kd.R_alloc | apply Kd.R_drewN | apply Kd.R_drew)); exact Kd.R_mono HO451.out (fun _ hk => trivial), by repeat (first | (with_reducible first | exact HB.out | apply below_alloc | apply pw_below_drewN | apply below_drew1 | refine below_set ?_ GE437.out) | exact HB.out)⟩
            ·rw [if_neg c17] at H
             exact absurd H zq53
           ·rw [if_neg c16] at H
            exact absurd H zq53
          ·rw [if_neg c15] at H
           exact absurd H zq53
         ·rw [if_neg c12] at H
          exact absurd H zq53
        ·rw [if_neg c10] at H
         have c10b0 : (((rd_T49 l0 x12_1).f1) == a2) = false := beq_eq_false_iff_ne.mpr c10
         have c10b1 : (((rd_T49 l0 x12_1).f1) != a2) = true := bne_iff_ne.mpr c10
         have H' := zA H
         clear H
         have p436 : 0 ≤ (x12_1 : Int) := of_decide_eq_true zq6
         have q436 : x12_1 < (l0.length : Int) := of_decide_eq_true zq6
         obtain ⟨ad436, e436, hx436_0, hx436_1, hx436_2, hx436_3, hx436_4⟩ := at_T49 HR0.out x12_1 p436 q436
         (try rw [← Nbq7.out] at hx436_4)
         cases e436
         replace hx436_0 := (HB.out.cell (World.block_lt_of_cell? w _ hx436_0)).trans hx436_0
         replace hx436_1 := (HB.out.cell (World.block_lt_of_cell? w _ hx436_1)).trans hx436_1
         replace hx436_2 := (HB.out.cell (World.block_lt_of_cell? w _ hx436_2)).trans hx436_2
         replace hx436_3 := (HB.out.cell (World.block_lt_of_cell? w _ hx436_3)).trans hx436_3
         replace hx436_4 := (HB.out.cell (World.block_lt_of_cell? w _ hx436_4)).trans hx436_4
         replace p436 := eq_true p436
         replace q436 := eq_true q436
         go_wp2_with (first | ((with_reducible refine gate_dst (N := 9) rfl ?_); refine box_event ?hg (N := 9) ?hd (cs := #[.int .i64 0, .int .i64 0, .int .i64 0, .int .i64 0, .bool false]) (t := 49) ?hr ?_; (case hd => rfl); (case hg => rfl); (case hr => first | (go_simp; done) | (go_simp; rfl)); intro gb437 hg w26 hbox hb; have BK437 := zA (hbox); have GW437 := zA ((zq3 : w.heap.size ≤ gb437)); have GE437 := zA ((zq3 : w.heap.size ≤ gb437)); replace HB := zA (below_step zq0 hb); clear hb hbox hg; have hcz27_0 : w26.cell? ⟨gb437, 0, none⟩ = some (.int .i64 0) := (blk_cell BK437.out 0).trans rfl; have hcz27_1 : w26.cell? ⟨gb437, 1, none⟩ = some (.int .i64 0) := (blk_cell BK437.out 1).trans rfl; have hcz27_2 : w26.cell? ⟨gb437, 2, none⟩ = some (.int .i64 0) := (blk_cell BK437.out 2).trans rfl; have hcz27_3 : w26.cell? ⟨gb437, 3, none⟩ = some (.int .i64 0) := (blk_cell BK437.out 3).trans rfl; have hcz27_4 : w26.cell? ⟨gb437, 4, none⟩ = some (.bool false) := (blk_cell BK437.out 4).trans rfl; have hfz27_0 := blk_frozen BK437.out 0; have hfz27_1 := blk_frozen BK437.out 1; have hfz27_2 := blk_frozen BK437.out 2; have hfz27_3 := blk_frozen BK437.out 3; have hfz27_4 := blk_frozen BK437.out 4))
         go_roundg k1
         case measure => have := HK1.out; omega
         case rel => exact ⟨(wrap64 (x12_1 + 1)), zq15, H', ⟨by have := HK1.out; omega⟩, ⟨by repeat (first | (with_reducible first | exact HB.out | apply below_alloc | apply pw_below_drewN | apply below_drew1 | refine below_set ?_ GE437.out) | exact HB.out)⟩⟩
       ·rw [if_neg c9] at H
        have c9b0 : (((rd_T49 l0 x12_1).f0) == a1) = false := beq_eq_false_iff_ne.mpr c9
        have c9b1 : (((rd_T49 l0 x12_1).f0) != a1) = true := bne_iff_ne.mpr c9
        have H' := zA H
        clear H
        have p436 : 0 ≤ (x12_1 : Int) := of_decide_eq_true zq6
        have q436 : x12_1 < (l0.length : Int) := of_decide_eq_true zq6
        obtain ⟨ad436, e436, hx436_0, hx436_1, hx436_2, hx436_3, hx436_4⟩ := at_T49 HR0.out x12_1 p436 q436
        (try rw [← Nbq7.out] at hx436_4)
        cases e436
        replace hx436_0 := (HB.out.cell (World.block_lt_of_cell? w _ hx436_0)).trans hx436_0
        replace hx436_1 := (HB.out.cell (World.block_lt_of_cell? w _ hx436_1)).trans hx436_1
        replace hx436_2 := (HB.out.cell (World.block_lt_of_cell? w _ hx436_2)).trans hx436_2
        replace hx436_3 := (HB.out.cell (World.block_lt_of_cell? w _ hx436_3)).trans hx436_3
        replace hx436_4 := (HB.out.cell (World.block_lt_of_cell? w _ hx436_4)).trans hx436_4
        replace p436 := eq_true p436
        replace q436 := eq_true q436
        go_wp2_with (first | ((with_reducible refine gate_dst (N := 9) rfl ?_); refine box_event ?hg (N := 9) ?hd (cs := #[.int .i64 0, .int .i64 0, .int .i64 0, .int .i64 0, .bool false]) (t := 49) ?hr ?_; (case hd => rfl); (case hg => rfl); (case hr => first | (go_simp; done) | (go_simp; rfl)); intro gb437 hg w28 hbox hb; have BK437 := zA (hbox); have GW437 := zA ((zq3 : w.heap.size ≤ gb437)); have GE437 := zA ((zq3 : w.heap.size ≤ gb437)); replace HB := zA (below_step zq0 hb); clear hb hbox hg; have hcz29_0 : w28.cell? ⟨gb437, 0, none⟩ = some (.int .i64 0) := (blk_cell BK437.out 0).trans rfl; have hcz29_1 : w28.cell? ⟨gb437, 1, none⟩ = some (.int .i64 0) := (blk_cell BK437.out 1).trans rfl; have hcz29_2 : w28.cell? ⟨gb437, 2, none⟩ = some (.int .i64 0) := (blk_cell BK437.out 2).trans rfl; have hcz29_3 : w28.cell? ⟨gb437, 3, none⟩ = some (.int .i64 0) := (blk_cell BK437.out 3).trans rfl; have hcz29_4 : w28.cell? ⟨gb437, 4, none⟩ = some (.bool false) := (blk_cell BK437.out 4).trans rfl; have hfz29_0 := blk_frozen BK437.out 0; have hfz29_1 := blk_frozen BK437.out 1; have hfz29_2 := blk_frozen BK437.out 2; have hfz29_3 := blk_frozen BK437.out 3; have hfz29_4 := blk_frozen BK437.out 4))
        go_roundg k1
        case measure => have := HK1.out; omega
        case rel => exact ⟨(wrap64 (x12_1 + 1)), zq15, H', ⟨by have := HK1.out; omega⟩, ⟨by repeat (first | (with_reducible first | exact HB.out | apply below_alloc | apply pw_below_drewN | apply below_drew1 | refine below_set ?_ GE437.out) | exact HB.out)⟩⟩
      ·replace c8 := Bool.eq_false_iff.mpr c8
       subst c8
       rw [if_neg zF] at H
       have H' := zA H
       clear H
       have p436 : 0 ≤ (x12_1 : Int) := of_decide_eq_true zq6
       have q436 : x12_1 < (l0.length : Int) := of_decide_eq_true zq6
       obtain ⟨ad436, e436, hx436_0, hx436_1, hx436_2, hx436_3, hx436_4⟩ := at_T49 HR0.out x12_1 p436 q436
       (try rw [← Nbq7.out] at hx436_4)
       cases e436
       replace hx436_0 := (HB.out.cell (World.block_lt_of_cell? w _ hx436_0)).trans hx436_0
       replace hx436_1 := (HB.out.cell (World.block_lt_of_cell? w _ hx436_1)).trans hx436_1
       replace hx436_2 := (HB.out.cell (World.block_lt_of_cell? w _ hx436_2)).trans hx436_2
       replace hx436_3 := (HB.out.cell (World.block_lt_of_cell? w _ hx436_3)).trans hx436_3
       replace hx436_4 := (HB.out.cell (World.block_lt_of_cell? w _ hx436_4)).trans hx436_4
       replace p436 := eq_true p436
       replace q436 := eq_true q436
       go_wp2_with (first | ((with_reducible refine gate_dst (N := 9) rfl ?_); refine box_event ?hg (N := 9) ?hd (cs := #[.int .i64 0, .int .i64 0, .int .i64 0, .int .i64 0, .bool false]) (t := 49) ?hr ?_; (case hd => rfl); (case hg => rfl); (case hr => first | (go_simp; done) | (go_simp; rfl)); intro gb437 hg w30 hbox hb; have BK437 := zA (hbox); have GW437 := zA ((zq3 : w.heap.size ≤ gb437)); have GE437 := zA ((zq3 : w.heap.size ≤ gb437)); replace HB := zA (below_step zq0 hb); clear hb hbox hg; have hcz31_0 : w30.cell? ⟨gb437, 0, none⟩ = some (.int .i64 0) := (blk_cell BK437.out 0).trans rfl; have hcz31_1 : w30.cell? ⟨gb437, 1, none⟩ = some (.int .i64 0) := (blk_cell BK437.out 1).trans rfl; have hcz31_2 : w30.cell? ⟨gb437, 2, none⟩ = some (.int .i64 0) := (blk_cell BK437.out 2).trans rfl; have hcz31_3 : w30.cell? ⟨gb437, 3, none⟩ = some (.int .i64 0) := (blk_cell BK437.out 3).trans rfl; have hcz31_4 : w30.cell? ⟨gb437, 4, none⟩ = some (.bool false) := (blk_cell BK437.out 4).trans rfl; have hfz31_0 := blk_frozen BK437.out 0; have hfz31_1 := blk_frozen BK437.out 1; have hfz31_2 := blk_frozen BK437.out 2; have hfz31_3 := blk_frozen BK437.out 3; have hfz31_4 := blk_frozen BK437.out 4))
       go_roundg k1
       case measure => have := HK1.out; omega
       case rel => exact ⟨(wrap64 (x12_1 + 1)), zq15, H', ⟨by have := HK1.out; omega⟩, ⟨by repeat (first | (with_reducible first | exact HB.out | apply below_alloc | apply pw_below_drewN | apply below_drew1 | refine below_set ?_ GE437.out) | exact HB.out)⟩⟩
     ·rw [if_neg c6] at H
      exact absurd H zq53
    ·rw [if_neg c5] at H
     exact absurd H zq53
   ·rw [if_neg c4] at H
    have c4b0 : decide (x12_1 < (l0.length : Int)) = false := decide_eq_false c4
    clear c4
    obtain ⟨t452, A32, H⟩ := zB H
    try dsimp only at H
    simp only [Option.some.injEq, Prod.mk.injEq] at H
    obtain ⟨rfl, rfl⟩ := H
    go_wp2_with (first | ((with_reducible refine gate_callee (f := 135) rfl ?_); refine goesL_ (some 42) rfl rfl Try.func135 (by kernel_rfl) rfl #[.slice A0 l0.length c0] rfl zq1 ?_; (with_reducible refine (impl_copyFdb.calls _ _ l0 t452 _ ?side1 ?side2 A32.out).mono ?_); (case side1 => repeat (first | exact (Kd.C_below HR0.out HB.out) | (with_reducible refine Kd.C_alloc ?_ _) | (with_reducible refine Kd.C_drewN ?_ _) | (with_reducible refine Kd.C_drew ?_))); (case side2 => exact HC0.out); rintro e w33 ⟨v453, rfl, ho0, hb⟩; refine ⟨_, rfl, ?_⟩; have HO454 := zA (Kd.R_lower ho0 (below_size zq0)); replace HB := zA (below_step zq0 hb); clear hb ho0))
    go_ret2
    exact ⟨_, by first | rfl | (simp [errW_none, errW_some] <;> rfl) | (simp [*, errW_none, errW_some] <;> rfl), by (with_reducible repeat (first | apply Kd.R_alloc | apply Kd.R_drewN | apply Kd.R_drew)); exact HO454.out, by repeat (first | (with_reducible first | exact HB.out | apply below_alloc | apply pw_below_drewN | apply below_drew1) | exact HB.out)⟩

/-! ### spec_DropStatic: function 54 -/
def spec_DropStatic.l0 : Nat → List (S49) → Int → Int → List (S49) → Bool → Int → Option ((List (S49)) × Bool)
 | 0, _, _, _, _, _, _ => none
 | k + 1, x0, x1, x2, x8, x9, x10 => if x10 < (x0.length : Int) then (if x9 = true then (if 0 ≤ x10 then (if x8.length < 3518437208883 then (spec_DropStatic.l0 k x0 x1 x2 (x8 ++ [(⟨(rd_T49 x0 x10).f0, (rd_T49 x0 x10).f1, (rd_T49 x0 x10).f2, (rd_T49 x0 x10).f3, (rd_T49 x0 x10).f4⟩ : S49)]) x9 (wrap64 (x10 + 1))) else (none)) else (none)) else (if 0 ≤ x10 then (if (rd_T49 x0 x10).f4 = true then (if ((rd_T49 x0 x10).f0) = x1 then (if ((rd_T49 x0 x10).f1) = x2 then (spec_DropStatic.l0 k x0 x1 x2 x8 true (wrap64 (x10 + 1))) else (if x8.length < 3518437208883 then (spec_DropStatic.l0 k x0 x1 x2 (x8 ++ [(⟨(rd_T49 x0 x10).f0, (rd_T49 x0 x10).f1, (rd_T49 x0 x10).f2, (rd_T49 x0 x10).f3, (rd_T49 x0 x10).f4⟩ : S49)]) x9 (wrap64 (x10 + 1))) else (none))) else (if x8.length < 3518437208883 then (spec_DropStatic.l0 k x0 x1 x2 (x8 ++ [(⟨(rd_T49 x0 x10).f0, (rd_T49 x0 x10).f1, (rd_T49 x0 x10).f2, (rd_T49 x0 x10).f3, (rd_T49 x0 x10).f4⟩ : S49)]) x9 (wrap64 (x10 + 1))) else (none))) else (if x8.length < 3518437208883 then (spec_DropStatic.l0 k x0 x1 x2 (x8 ++ [(⟨(rd_T49 x0 x10).f0, (rd_T49 x0 x10).f1, (rd_T49 x0 x10).f2, (rd_T49 x0 x10).f3, (rd_T49 x0 x10).f4⟩ : S49)]) x9 (wrap64 (x10 + 1))) else (none))) else (none))) else (some (x8, x9))
def spec_DropStatic.f (k : Nat) (l0 : List (S49)) (a1 : Int) (a2 : Int) : Option ((List (S49)) × Bool) := spec_DropStatic.l0 k l0 a1 a2 (([] : List (S49))) false 0
theorem spec_DropStatic.mono_l : ∀ k, (∀ y0 y1 y2 y3 y4 y5, LeO (spec_DropStatic.l0 k y0 y1 y2 y3 y4 y5) (spec_DropStatic.l0 (k + 1) y0 y1 y2 y3 y4 y5))
 | 0 => fun _ _ _ _ _ _ r h => by simp [spec_DropStatic.l0] at h
 | k + 1 => by
  have ih0 := spec_DropStatic.mono_l k
  ·intro y0 y1 y2 y3 y4 y5
   unfold spec_DropStatic.l0
   repeat' first
   | (with_reducible exact ih0 _ _ _ _ _ _)
   | (with_reducible exact LeO.refl _)
   | (with_reducible exact LeO.none _)
   | (with_reducible refine LeO.ite ?_ ?_)
   | (with_reducible refine LeO.bind ?_ (fun _ => ?_))
   | exact ih0 _ _ _ _ _ _
   | exact LeO.none _
   | refine LeO.ite ?_ ?_
   | refine LeO.bind ?_ (fun _ => ?_)
theorem spec_DropStatic.mono : ∀ a0 a1 a2 k, LeO (spec_DropStatic.f k a0 a1 a2) (spec_DropStatic.f (k + 1) a0 a1 a2) := by
 intro a0 a1 a2 k
 have ih0 := spec_DropStatic.mono_l k
 unfold spec_DropStatic.f
 repeat' first
   | (with_reducible exact ih0 _ _ _ _ _ _)
   | (with_reducible exact LeO.refl _)
   | (with_reducible exact LeO.none _)
   | (with_reducible refine LeO.ite ?_ ?_)
   | (with_reducible refine LeO.bind ?_ (fun _ => ?_))
   | exact ih0 _ _ _ _ _ _
   | exact LeO.none _
   | refine LeO.ite ?_ ?_
   | refine LeO.bind ?_ (fun _ => ?_)
set_option maxHeartbeats 8000000 in
set_option maxRecDepth 100000 in
theorem spec_DropStatic.calls (k : Nat) (A0 : Option Addr) (c0 : Nat) (l0 : List (S49)) (a1 : Int) (a2 : Int) (r1 : List (S49)) (r2 : Bool) (w : World) (hr0 : Kd.C k49 w A0 l0.length l0) (hc0 : l0.length ≤ c0) (h : spec_DropStatic.f k l0 a1 a2 = some (r1, r2)) :
  Calls Try.prog 54 #[.slice A0 l0.length c0, .int .i64 a1, .int .i64 a2] w fun e w' => ∃ v0_ : Value, e = .returned (.tuple #[v0_, .bool r2]) ∧ Kd.R k49 49 w' w.heap.size (fun _ => True) v0_ r1 ∧ Below w.heap.size w w' := by
 have hu49 := Try.underlying49
 have HR0 := zA hr0
 have HC0 := zA hc0
 clear hr0 hc0
 have HB := zA (Below.refl w.heap.size w)
 have H : (spec_DropStatic.l0 k l0 a1 a2 (([] : List (S49))) false 0) = some (r1, r2) := h
 clear h
 obtain ⟨y455, hy455⟩ : ∃ y_ : List (S49), y_ = (([] : List (S49))) := ⟨_, rfl⟩
 replace H : (spec_DropStatic.l0 k l0 a1 a2 y455 false 0) = some (r1, r2) := by first | (rw [hy455]; with_reducible exact H) | (have H2_ := (Option.bind_some _ _).symm.trans H; rw [hy455]; with_reducible exact H2_) | (have H2_ := (Option.bind_some _ _).symm.trans H; with_reducible exact H2_) | with_reducible exact H | (rw [hy455]; exact H) | exact H
 have Ny455 := zA hy455
 clear hy455
 have H' := zA H
 clear H
 go_enter Try.func54, Try.ntmps54
 go_wp2_with (first | ((with_reducible refine gate_dst (N := 11) rfl ?_); refine Kd.R_lit k49 _ 49 ?hg (N := 11) ?hd (xs := ([] : List (S49))) (inner := []) (ok := fun _ => True) (okp := fun _ => True) ?hr ?hp (fun _ hk => hk) trivial (Below.refl _ _) (Nat.le_refl _) zq53 ?_; (case hd => rfl); (case hg => rfl); (case hr => first | (go_simp; done) | (go_simp; rfl)); (case hp => exact (Reps.none _ _)); intro v456 w4 ho5 hb hg_ hnew_; clear hg_ hnew_; (first | rw [← Ny455.out] at ho5 | (simp only [Int.reduceToNat] at ho5; rw [← Ny455.out] at ho5)); have HO457 := zA (Kd.R_lower ho5 (below_size zq0)); replace HB := zA (below_step zq0 hb); clear hb ho5))
 go_loopg [8, 9, 10] k (fun kq v8 v9 v10 w' => ∃ (x8_1 : List (S49)) (x9_1 : Bool) (x10_1 : Int), v9 = .bool x9_1 ∧ v10 = .int .i64 x10_1 ∧ Aside0 (spec_DropStatic.l0 kq l0 a1 a2 x8_1 x9_1 x10_1 = some (r1, r2)) ∧ Aside0 (kq ≤ k) ∧ Aside0 (Kd.R k49 49 w' w.heap.size (fun _ => True) v8 x8_1) ∧ Aside0 (Below w.heap.size w w'))
 case atStart => exact ⟨(y455), (false), (0), zq15, zq15, H', ⟨Nat.le_refl _⟩, ⟨by (with_reducible repeat (first | apply Kd.R_alloc | apply Kd.R_drewN | apply Kd.R_drew)); exact HO457.out⟩, ⟨by repeat (first | (with_reducible first | exact HB.out | apply below_alloc | apply pw_below_drewN | apply below_drew1) | exact HB.out)⟩⟩
 case round =>
  clear H'
  try clear p2
  try clear c5
  obtain ⟨x8_1, x9_1, x10_1, rfl, rfl, HA, HK1, HO_8, HB⟩ := hrel
  cases gk with
  | zero => exact absurd HA.out (by simp [spec_DropStatic.l0])
  | succ k1 =>
   have H := HA.out
   clear HA
   simp only [spec_DropStatic.l0] at H
   by_cases c6 : x10_1 < (l0.length : Int)
   ·rw [if_pos c6] at H
    have c6b0 : decide (x10_1 < (l0.length : Int)) = true := decide_eq_true c6
    clear c6
    by_cases c7 : x9_1 = true
    ·subst c7
     rw [if_pos rfl] at H
     by_cases c8 : 0 ≤ x10_1
     ·rw [if_pos c8] at H
      have c8b0 : decide (0 ≤ x10_1) = true := decide_eq_true c8
      clear c8
      by_cases c9 : x8_1.length < 3518437208883
      ·rw [if_pos c9] at H
       have LMc9 := zA c9
       clear c9
       obtain ⟨y459, hy459⟩ : ∃ y_ : List (S49), y_ = (x8_1 ++ [(⟨(rd_T49 l0 x10_1).f0, (rd_T49 l0 x10_1).f1, (rd_T49 l0 x10_1).f2, (rd_T49 l0 x10_1).f3, (rd_T49 l0 x10_1).f4⟩ : S49)]) := ⟨_, rfl⟩
       replace H : (spec_DropStatic.l0 k1 l0 a1 a2 y459 true (wrap64 (x10_1 + 1))) = some (r1, r2) := by first | (rw [hy459]; with_reducible exact H) | (have H2_ := (Option.bind_some _ _).symm.trans H; rw [hy459]; with_reducible exact H2_) | (have H2_ := (Option.bind_some _ _).symm.trans H; with_reducible exact H2_) | with_reducible exact H | (rw [hy459]; exact H) | exact H
       have Ny459 := zA hy459
       clear hy459
       have H' := zA H
       clear H
       have p458 : 0 ≤ (x10_1 : Int) := of_decide_eq_true zq6
       have q458 : x10_1 < (l0.length : Int) := of_decide_eq_true zq6
       obtain ⟨ad458, e458, hx458_0, hx458_1, hx458_2, hx458_3, hx458_4⟩ := at_T49 HR0.out x10_1 p458 q458
       cases e458
       replace hx458_0 := (HB.out.cell (World.block_lt_of_cell? w _ hx458_0)).trans hx458_0
       replace hx458_1 := (HB.out.cell (World.block_lt_of_cell? w _ hx458_1)).trans hx458_1
       replace hx458_2 := (HB.out.cell (World.block_lt_of_cell? w _ hx458_2)).trans hx458_2
       replace hx458_3 := (HB.out.cell (World.block_lt_of_cell? w _ hx458_3)).trans hx458_3
       replace hx458_4 := (HB.out.cell (World.block_lt_of_cell? w _ hx458_4)).trans hx458_4
       replace p458 := eq_true p458
       replace q458 := eq_true q458
       go_wp2_with (first | ((with_reducible refine gate_builtin (b := .append) (xs := #[.tmp 45, .tmp 50]) rfl ?_); at_builtin; refine Kd.R_append k49 (w0 := w) w.heap.size rfl (.tmp 45) (.tmp 50) 43 49 (.agg #[(.int .i64 0), (.int .i64 0), (.int .i64 0), (.int .i64 0), (.bool false)]) 40 rfl Try.underlying43 info49 rfl zq40 zq66 u8 x8_1 (⟨(rd_T49 l0 x10_1).f0, (rd_T49 l0 x10_1).f1, (rd_T49 l0 x10_1).f2, (rd_T49 l0 x10_1).f3, (rd_T49 l0 x10_1).f4⟩ : S49) [.int .i64 ((rd_T49 l0 x10_1).f0), .int .i64 ((rd_T49 l0 x10_1).f1), .int .i64 ((rd_T49 l0 x10_1).f2), .int .i64 ((rd_T49 l0 x10_1).f3), .bool ((rd_T49 l0 x10_1).f4)] (fun _ => True) (fun _ => False) rfl rfl ?aP (fun _ hk => hk.elim) ?aF ?aO ?aB ?aS ?aL ?_; (case aP => exact k49_mkM _ _ _ (⟨(rd_T49 l0 x10_1).f0, (rd_T49 l0 x10_1).f1, (rd_T49 l0 x10_1).f2, (rd_T49 l0 x10_1).f3, (rd_T49 l0 x10_1).f4⟩ : S49)); (case aB => exact zq0); (case aF => exact (fun _ _ => trivial)); (case aO => exact zq64); (case aS => exact (below_size zq0)); (case aL => have := LMc9.out; omega); intro v460 w10 ho hb hg hat; rw [← Ny459.out] at ho; replace HB := zA (hb); have HO461 := zA (ho); clear HO_8; clear ho hb hg hat))
       go_roundg k1
       case measure => have := HK1.out; omega
       case rel => exact ⟨(y459), (true), (wrap64 (x10_1 + 1)), zq15, zq15, H', ⟨by have := HK1.out; omega⟩, ⟨by (with_reducible repeat (first | apply Kd.R_alloc | apply Kd.R_drewN | apply Kd.R_drew)); exact HO461.out⟩, ⟨by repeat (first | (with_reducible first | exact HB.out | apply below_alloc | apply pw_below_drewN | apply below_drew1) | exact HB.out)⟩⟩
      ·rw [if_neg c9] at H
       exact absurd H zq53
     ·rw [if_neg c8] at H
      exact absurd H zq53
    ·replace c7 := Bool.eq_false_iff.mpr c7
     subst c7
     rw [if_neg zF] at H
     by_cases c11 : 0 ≤ x10_1
     ·rw [if_pos c11] at H
      have c11b0 : decide (0 ≤ x10_1) = true := decide_eq_true c11
      clear c11
      obtain ⟨bq12, hbq12⟩ : ∃ b_ : Bool, b_ = ((rd_T49 l0 x10_1).f4) := ⟨_, rfl⟩
      replace H : (if bq12 = true then (if ((rd_T49 l0 x10_1).f0) = a1 then (if ((rd_T49 l0 x10_1).f1) = a2 then (spec_DropStatic.l0 k1 l0 a1 a2 x8_1 true (wrap64 (x10_1 + 1))) else (if x8_1.length < 3518437208883 then (spec_DropStatic.l0 k1 l0 a1 a2 (x8_1 ++ [(⟨(rd_T49 l0 x10_1).f0, (rd_T49 l0 x10_1).f1, (rd_T49 l0 x10_1).f2, (rd_T49 l0 x10_1).f3, bq12⟩ : S49)]) false (wrap64 (x10_1 + 1))) else (none))) else (if x8_1.length < 3518437208883 then (spec_DropStatic.l0 k1 l0 a1 a2 (x8_1 ++ [(⟨(rd_T49 l0 x10_1).f0, (rd_T49 l0 x10_1).f1, (rd_T49 l0 x10_1).f2, (rd_T49 l0 x10_1).f3, bq12⟩ : S49)]) false (wrap64 (x10_1 + 1))) else (none))) else (if x8_1.length < 3518437208883 then (spec_DropStatic.l0 k1 l0 a1 a2 (x8_1 ++ [(⟨(rd_T49 l0 x10_1).f0, (rd_T49 l0 x10_1).f1, (rd_T49 l0 x10_1).f2, (rd_T49 l0 x10_1).f3, bq12⟩ : S49)]) false (wrap64 (x10_1 + 1))) else (none))) = some (r1, r2) := by rw [← hbq12] at H; exact H
      have Nbq12 := zA hbq12
      clear hbq12
      by_cases c13 : bq12 = true
      ·subst c13
       rw [if_pos rfl] at H
       by_cases c14 : ((rd_T49 l0 x10_1).f0) = a1
       ·rw [if_pos c14] at H
        have c14b0 : (((rd_T49 l0 x10_1).f0) == a1) = true := beq_iff_eq.mpr c14
        have c14b1 : (((rd_T49 l0 x10_1).f0) != a1) = false := bne_eq_false_iff_eq.mpr c14
        clear c14
        by_cases c15 : ((rd_T49 l0 x10_1).f1) = a2
        ·rw [if_pos c15] at H
         have c15b0 : (((rd_T49 l0 x10_1).f1) == a2) = true := beq_iff_eq.mpr c15
         have c15b1 : (((rd_T49 l0 x10_1).f1) != a2) = false := bne_eq_false_iff_eq.mpr c15
         clear c15
         have H' := zA H
         clear H
         have p462 : 0 ≤ (x10_1 : Int) := of_decide_eq_true zq6
         have q462 : x10_1 < (l0.length : Int) := of_decide_eq_true zq6
         obtain ⟨ad462, e462, hx462_0, hx462_1, hx462_2, hx462_3, hx462_4⟩ := at_T49 HR0.out x10_1 p462 q462
         (try rw [← Nbq12.out] at hx462_4)
         cases e462
         replace hx462_0 := (HB.out.cell (World.block_lt_of_cell? w _ hx462_0)).trans hx462_0
         replace hx462_1 := (HB.out.cell (World.block_lt_of_cell? w _ hx462_1)).trans hx462_1
         replace hx462_2 := (HB.out.cell (World.block_lt_of_cell? w _ hx462_2)).trans hx462_2
         replace hx462_3 := (HB.out.cell (World.block_lt_of_cell? w _ hx462_3)).trans hx462_3
         replace hx462_4 := (HB.out.cell (World.block_lt_of_cell? w _ hx462_4)).trans hx462_4
         replace p462 := eq_true p462
         replace q462 := eq_true q462
         have p463 : 0 ≤ (x10_1 : Int) := of_decide_eq_true zq6
         have q463 : x10_1 < (l0.length : Int) := of_decide_eq_true zq6
         obtain ⟨ad463, e463, hx463_0, hx463_1, hx463_2, hx463_3, hx463_4⟩ := at_T49 HR0.out x10_1 p463 q463
         (try rw [← Nbq12.out] at hx463_4)
         obtain rfl : ad462 = ad463 := (by injection e463)
         replace hx463_0 := (HB.out.cell (World.block_lt_of_cell? w _ hx463_0)).trans hx463_0
         replace hx463_1 := (HB.out.cell (World.block_lt_of_cell? w _ hx463_1)).trans hx463_1
         replace hx463_2 := (HB.out.cell (World.block_lt_of_cell? w _ hx463_2)).trans hx463_2
         replace hx463_3 := (HB.out.cell (World.block_lt_of_cell? w _ hx463_3)).trans hx463_3
         replace hx463_4 := (HB.out.cell (World.block_lt_of_cell? w _ hx463_4)).trans hx463_4
         replace p463 := eq_true p463
         replace q463 := eq_true q463
         have p464 : 0 ≤ (x10_1 : Int) := of_decide_eq_true zq6
         have q464 : x10_1 < (l0.length : Int) := of_decide_eq_true zq6
         obtain ⟨ad464, e464, hx464_0, hx464_1, hx464_2, hx464_3, hx464_4⟩ := at_T49 HR0.out x10_1 p464 q464
         (try rw [← Nbq12.out] at hx464_4)
         obtain rfl : ad462 = ad464 := (by injection e464)
         replace hx464_0 := (HB.out.cell (World.block_lt_of_cell? w _ hx464_0)).trans hx464_0
         replace hx464_1 := (HB.out.cell (World.block_lt_of_cell? w _ hx464_1)).trans hx464_1
         replace hx464_2 := (HB.out.cell (World.block_lt_of_cell? w _ hx464_2)).trans hx464_2
         replace hx464_3 := (HB.out.cell (World.block_lt_of_cell? w _ hx464_3)).trans hx464_3
         replace hx464_4 := (HB.out.cell (World.block_lt_of_cell? w _ hx464_4)).trans hx464_4
         replace p464 := eq_true p464
         replace q464 := eq_true q464
         go_wp2
         go_roundg k1
         case measure => have := HK1.out; omega
         case rel => exact ⟨(x8_1), (true), (wrap64 (x10_1 + 1)), zq15, zq15, H', ⟨by have := HK1.out; omega⟩, ⟨by (with_reducible repeat (first | apply Kd.R_alloc | apply Kd.R_drewN | apply Kd.R_drew)); exact HO_8.out⟩, ⟨by repeat (first | (with_reducible first | exact HB.out | apply below_alloc | apply pw_below_drewN | apply below_drew1) | exact HB.out)⟩⟩
        ·rw [if_neg c15] at H
         have c15b0 : (((rd_T49 l0 x10_1).f1) == a2) = false := beq_eq_false_iff_ne.mpr c15
         have c15b1 : (((rd_T49 l0 x10_1).f1) != a2) = true := bne_iff_ne.mpr c15
         by_cases c16 : x8_1.length < 3518437208883
         ·rw [if_pos c16] at H
          have LMc16 := zA c16
          clear c16
          obtain ⟨y466, hy466⟩ : ∃ y_ : List (S49), y_ = (x8_1 ++ [(⟨(rd_T49 l0 x10_1).f0, (rd_T49 l0 x10_1).f1, (rd_T49 l0 x10_1).f2, (rd_T49 l0 x10_1).f3, true⟩ : S49)]) := ⟨_, rfl⟩
          replace H : (spec_DropStatic.l0 k1 l0 a1 a2 y466 false (wrap64 (x10_1 + 1))) = some (r1, r2) := by first | (rw [hy466]; with_reducible exact H) | (have H2_ := (Option.bind_some _ _).symm.trans H; rw [hy466]; with_reducible exact H2_) | (have H2_ := (Option.bind_some _ _).symm.trans H; with_reducible exact H2_) | with_reducible exact H | (rw [hy466]; exact H) | exact H
          have Ny466 := zA hy466
          clear hy466
          have H' := zA H
          clear H
          have p462 : 0 ≤ (x10_1 : Int) := of_decide_eq_true zq6
          have q462 : x10_1 < (l0.length : Int) := of_decide_eq_true zq6
          obtain ⟨ad462, e462, hx462_0, hx462_1, hx462_2, hx462_3, hx462_4⟩ := at_T49 HR0.out x10_1 p462 q462
          (try rw [← Nbq12.out] at hx462_4)
          cases e462
          replace hx462_0 := (HB.out.cell (World.block_lt_of_cell? w _ hx462_0)).trans hx462_0
          replace hx462_1 := (HB.out.cell (World.block_lt_of_cell? w _ hx462_1)).trans hx462_1
          replace hx462_2 := (HB.out.cell (World.block_lt_of_cell? w _ hx462_2)).trans hx462_2
          replace hx462_3 := (HB.out.cell (World.block_lt_of_cell? w _ hx462_3)).trans hx462_3
          replace hx462_4 := (HB.out.cell (World.block_lt_of_cell? w _ hx462_4)).trans hx462_4
          replace p462 := eq_true p462
          replace q462 := eq_true q462
          have p463 : 0 ≤ (x10_1 : Int) := of_decide_eq_true zq6
          have q463 : x10_1 < (l0.length : Int) := of_decide_eq_true zq6
          obtain ⟨ad463, e463, hx463_0, hx463_1, hx463_2, hx463_3, hx463_4⟩ := at_T49 HR0.out x10_1 p463 q463
          (try rw [← Nbq12.out] at hx463_4)
          obtain rfl : ad462 = ad463 := (by injection e463)
          replace hx463_0 := (HB.out.cell (World.block_lt_of_cell? w _ hx463_0)).trans hx463_0
          replace hx463_1 := (HB.out.cell (World.block_lt_of_cell? w _ hx463_1)).trans hx463_1
          replace hx463_2 := (HB.out.cell (World.block_lt_of_cell? w _ hx463_2)).trans hx463_2
          replace hx463_3 := (HB.out.cell (World.block_lt_of_cell? w _ hx463_3)).trans hx463_3
          replace hx463_4 := (HB.out.cell (World.block_lt_of_cell? w _ hx463_4)).trans hx463_4
          replace p463 := eq_true p463
          replace q463 := eq_true q463
          have p464 : 0 ≤ (x10_1 : Int) := of_decide_eq_true zq6
          have q464 : x10_1 < (l0.length : Int) := of_decide_eq_true zq6
          obtain ⟨ad464, e464, hx464_0, hx464_1, hx464_2, hx464_3, hx464_4⟩ := at_T49 HR0.out x10_1 p464 q464
          (try rw [← Nbq12.out] at hx464_4)
          obtain rfl : ad462 = ad464 := (by injection e464)
          replace hx464_0 := (HB.out.cell (World.block_lt_of_cell? w _ hx464_0)).trans hx464_0
          replace hx464_1 := (HB.out.cell (World.block_lt_of_cell? w _ hx464_1)).trans hx464_1
          replace hx464_2 := (HB.out.cell (World.block_lt_of_cell? w _ hx464_2)).trans hx464_2
          replace hx464_3 := (HB.out.cell (World.block_lt_of_cell? w _ hx464_3)).trans hx464_3
          replace hx464_4 := (HB.out.cell (World.block_lt_of_cell? w _ hx464_4)).trans hx464_4
          replace p464 := eq_true p464
          replace q464 := eq_true q464
          have p465 : 0 ≤ (x10_1 : Int) := of_decide_eq_true zq6
          have q465 : x10_1 < (l0.length : Int) := of_decide_eq_true zq6
          obtain ⟨ad465, e465, hx465_0, hx465_1, hx465_2, hx465_3, hx465_4⟩ := at_T49 HR0.out x10_1 p465 q465
          (try rw [← Nbq12.out] at hx465_4)
          obtain rfl : ad462 = ad465 := (by injection e465)
          replace hx465_0 := (HB.out.cell (World.block_lt_of_cell? w _ hx465_0)).trans hx465_0
          replace hx465_1 := (HB.out.cell (World.block_lt_of_cell? w _ hx465_1)).trans hx465_1
          replace hx465_2 := (HB.out.cell (World.block_lt_of_cell? w _ hx465_2)).trans hx465_2
          replace hx465_3 := (HB.out.cell (World.block_lt_of_cell? w _ hx465_3)).trans hx465_3
          replace hx465_4 := (HB.out.cell (World.block_lt_of_cell? w _ hx465_4)).trans hx465_4
          replace p465 := eq_true p465
          replace q465 := eq_true q465
          go_wp2_with (first | ((with_reducible refine gate_builtin (b := .append) (xs := #[.tmp 45, .tmp 50]) rfl ?_); at_builtin; refine Kd.R_append k49 (w0 := w) w.heap.size rfl (.tmp 45) (.tmp 50) 43 49 (.agg #[(.int .i64 0), (.int .i64 0), (.int .i64 0), (.int .i64 0), (.bool false)]) 40 rfl Try.underlying43 info49 rfl zq40 zq66 u8 x8_1 (⟨(rd_T49 l0 x10_1).f0, (rd_T49 l0 x10_1).f1, (rd_T49 l0 x10_1).f2, (rd_T49 l0 x10_1).f3, true⟩ : S49) [.int .i64 ((rd_T49 l0 x10_1).f0), .int .i64 ((rd_T49 l0 x10_1).f1), .int .i64 ((rd_T49 l0 x10_1).f2), .int .i64 ((rd_T49 l0 x10_1).f3), .bool true] (fun _ => True) (fun _ => False) rfl rfl ?aP (fun _ hk => hk.elim) ?aF ?aO ?aB ?aS ?aL ?_; (case aP => exact k49_mkM _ _ _ (⟨(rd_T49 l0 x10_1).f0, (rd_T49 l0 x10_1).f1, (rd_T49 l0 x10_1).f2, (rd_T49 l0 x10_1).f3, true⟩ : S49)); (case aB => exact zq0); (case aF => exact (fun _ _ => trivial)); (case aO => exact zq64); (case aS => exact (below_size zq0)); (case aL => have := LMc16.out; omega); intro v467 w17 ho hb hg hat; rw [← Ny466.out] at ho; replace HB := zA (hb); have HO468 := zA (ho); clear HO_8; clear ho hb hg hat))
          go_roundg k1
          case measure => have := HK1.out; omega
          case rel => exact ⟨(y466), (false), (wrap64 (x10_1 + 1)), zq15, zq15, H', ⟨by have := HK1.out; omega⟩, ⟨by (with_reducible repeat (first | apply Kd.R_alloc | apply Kd.R_drewN | apply Kd.R_drew)); exact HO468.out⟩, ⟨by repeat (first | (with_reducible first | exact HB.out | apply below_alloc | apply pw_below_drewN | apply below_drew1) | exact HB.out)⟩⟩
         ·rw [if_neg c16] at H
          exact absurd H zq53
       ·rw [if_neg c14] at H
        have c14b0 : (((rd_T49 l0 x10_1).f0) == a1) = false := beq_eq_false_iff_ne.mpr c14
        have c14b1 : (((rd_T49 l0 x10_1).f0) != a1) = true := bne_iff_ne.mpr c14
        by_cases c18 : x8_1.length < 3518437208883
        ·rw [if_pos c18] at H
         have LMc18 := zA c18
         clear c18
         obtain ⟨y470, hy470⟩ : ∃ y_ : List (S49), y_ = (x8_1 ++ [(⟨(rd_T49 l0 x10_1).f0, (rd_T49 l0 x10_1).f1, (rd_T49 l0 x10_1).f2, (rd_T49 l0 x10_1).f3, true⟩ : S49)]) := ⟨_, rfl⟩
         replace H : (spec_DropStatic.l0 k1 l0 a1 a2 y470 false (wrap64 (x10_1 + 1))) = some (r1, r2) := by first | (rw [hy470]; with_reducible exact H) | (have H2_ := (Option.bind_some _ _).symm.trans H; rw [hy470]; with_reducible exact H2_) | (have H2_ := (Option.bind_some _ _).symm.trans H; with_reducible exact H2_) | with_reducible exact H | (rw [hy470]; exact H) | exact H
         have Ny470 := zA hy470
         clear hy470
         have H' := zA H
         clear H
         have p462 : 0 ≤ (x10_1 : Int) := of_decide_eq_true zq6
         have q462 : x10_1 < (l0.length : Int) := of_decide_eq_true zq6
         obtain ⟨ad462, e462, hx462_0, hx462_1, hx462_2, hx462_3, hx462_4⟩ := at_T49 HR0.out x10_1 p462 q462
         (try rw [← Nbq12.out] at hx462_4)
         cases e462
         replace hx462_0 := (HB.out.cell (World.block_lt_of_cell? w _ hx462_0)).trans hx462_0
         replace hx462_1 := (HB.out.cell (World.block_lt_of_cell? w _ hx462_1)).trans hx462_1
         replace hx462_2 := (HB.out.cell (World.block_lt_of_cell? w _ hx462_2)).trans hx462_2
         replace hx462_3 := (HB.out.cell (World.block_lt_of_cell? w _ hx462_3)).trans hx462_3
         replace hx462_4 := (HB.out.cell (World.block_lt_of_cell? w _ hx462_4)).trans hx462_4
         replace p462 := eq_true p462
         replace q462 := eq_true q462
         have p463 : 0 ≤ (x10_1 : Int) := of_decide_eq_true zq6
         have q463 : x10_1 < (l0.length : Int) := of_decide_eq_true zq6
         obtain ⟨ad463, e463, hx463_0, hx463_1, hx463_2, hx463_3, hx463_4⟩ := at_T49 HR0.out x10_1 p463 q463
         (try rw [← Nbq12.out] at hx463_4)
         obtain rfl : ad462 = ad463 := (by injection e463)
         replace hx463_0 := (HB.out.cell (World.block_lt_of_cell? w _ hx463_0)).trans hx463_0
         replace hx463_1 := (HB.out.cell (World.block_lt_of_cell? w _ hx463_1)).trans hx463_1
         replace hx463_2 := (HB.out.cell (World.block_lt_of_cell? w _ hx463_2)).trans hx463_2
         replace hx463_3 := (HB.out.cell (World.block_lt_of_cell? w _ hx463_3)).trans hx463_3
         replace hx463_4 := (HB.out.cell (World.block_lt_of_cell? w _ hx463_4)).trans hx463_4
         replace p463 := eq_true p463
         replace q463 := eq_true q463
         have p469 : 0 ≤ (x10_1 : Int) := of_decide_eq_true zq6
         have q469 : x10_1 < (l0.length : Int) := of_decide_eq_true zq6
         obtain ⟨ad469, e469, hx469_0, hx469_1, hx469_2, hx469_3, hx469_4⟩ := at_T49 HR0.out x10_1 p469 q469
         (try rw [← Nbq12.out] at hx469_4)
         obtain rfl : ad462 = ad469 := (by injection e469)
         replace hx469_0 := (HB.out.cell (World.block_lt_of_cell? w _ hx469_0)).trans hx469_0
         replace hx469_1 := (HB.out.cell (World.block_lt_of_cell? w _ hx469_1)).trans hx469_1
         replace hx469_2 := (HB.out.cell (World.block_lt_of_cell? w _ hx469_2)).trans hx469_2
         replace hx469_3 := (HB.out.cell (World.block_lt_of_cell? w _ hx469_3)).trans hx469_3
         replace hx469_4 := (HB.out.cell (World.block_lt_of_cell? w _ hx469_4)).trans hx469_4
         replace p469 := eq_true p469
         replace q469 := eq_true q469
         go_wp2_with (first | ((with_reducible refine gate_builtin (b := .append) (xs := #[.tmp 45, .tmp 50]) rfl ?_); at_builtin; refine Kd.R_append k49 (w0 := w) w.heap.size rfl (.tmp 45) (.tmp 50) 43 49 (.agg #[(.int .i64 0), (.int .i64 0), (.int .i64 0), (.int .i64 0), (.bool false)]) 40 rfl Try.underlying43 info49 rfl zq40 zq66 u8 x8_1 (⟨(rd_T49 l0 x10_1).f0, (rd_T49 l0 x10_1).f1, (rd_T49 l0 x10_1).f2, (rd_T49 l0 x10_1).f3, true⟩ : S49) [.int .i64 ((rd_T49 l0 x10_1).f0), .int .i64 ((rd_T49 l0 x10_1).f1), .int .i64 ((rd_T49 l0 x10_1).f2), .int .i64 ((rd_T49 l0 x10_1).f3), .bool true] (fun _ => True) (fun _ => False) rfl rfl ?aP (fun _ hk => hk.elim) ?aF ?aO ?aB ?aS ?aL ?_; (case aP => exact k49_mkM _ _ _ (⟨(rd_T49 l0 x10_1).f0, (rd_T49 l0 x10_1).f1, (rd_T49 l0 x10_1).f2, (rd_T49 l0 x10_1).f3, true⟩ : S49)); (case aB => exact zq0); (case aF => exact (fun _ _ => trivial)); (case aO => exact zq64); (case aS => exact (below_size zq0)); (case aL => have := LMc18.out; omega); intro v471 w19 ho hb hg hat; rw [← Ny470.out] at ho; replace HB := zA (hb); have HO472 := zA (ho); clear HO_8; clear ho hb hg hat))
         go_roundg k1
         case measure => have := HK1.out; omega
         case rel => exact ⟨(y470), (false), (wrap64 (x10_1 + 1)), zq15, zq15, H', ⟨by have := HK1.out; omega⟩, ⟨by (with_reducible repeat (first | apply Kd.R_alloc | apply Kd.R_drewN | apply Kd.R_drew)); exact HO472.out⟩, ⟨by repeat (first | (with_reducible first | exact HB.out | apply below_alloc | apply pw_below_drewN | apply below_drew1) | exact HB.out)⟩⟩
        ·rw [if_neg c18] at H
         exact absurd H zq53
      ·replace c13 := Bool.eq_false_iff.mpr c13
       subst c13
       rw [if_neg zF] at H
       by_cases c20 : x8_1.length < 3518437208883
       ·rw [if_pos c20] at H
        have LMc20 := zA c20
        clear c20
        obtain ⟨y474, hy474⟩ : ∃ y_ : List (S49), y_ = (x8_1 ++ [(⟨(rd_T49 l0 x10_1).f0, (rd_T49 l0 x10_1).f1, (rd_T49 l0 x10_1).f2, (rd_T49 l0 x10_1).f3, false⟩ : S49)]) := ⟨_, rfl⟩
        replace H : (spec_DropStatic.l0 k1 l0 a1 a2 y474 false (wrap64 (x10_1 + 1))) = some (r1, r2) := by first | (rw [hy474]; with_reducible exact H) | (have H2_ := (Option.bind_some _ _).symm.trans H; rw [hy474]; with_reducible exact H2_) | (have H2_ := (Option.bind_some _ _).symm.trans H; with_reducible exact H2_) | with_reducible exact H | (rw [hy474]; exact H) | exact H
        have Ny474 := zA hy474
        clear hy474
        have H' := zA H
        clear H
        have p462 : 0 ≤ (x10_1 : Int) := of_decide_eq_true zq6
        have q462 : x10_1 < (l0.length : Int) := of_decide_eq_true zq6
        obtain ⟨ad462, e462, hx462_0, hx462_1, hx462_2, hx462_3, hx462_4⟩ := at_T49 HR0.out x10_1 p462 q462
        (try rw [← Nbq12.out] at hx462_4)
        cases e462
        replace hx462_0 := (HB.out.cell (World.block_lt_of_cell? w _ hx462_0)).trans hx462_0
        replace hx462_1 := (HB.out.cell (World.block_lt_of_cell? w _ hx462_1)).trans hx462_1
        replace hx462_2 := (HB.out.cell (World.block_lt_of_cell? w _ hx462_2)).trans hx462_2
        replace hx462_3 := (HB.out.cell (World.block_lt_of_cell? w _ hx462_3)).trans hx462_3
        replace hx462_4 := (HB.out.cell (World.block_lt_of_cell? w _ hx462_4)).trans hx462_4
        replace p462 := eq_true p462
        replace q462 := eq_true q462
        have p473 : 0 ≤ (x10_1 : Int) := of_decide_eq_true zq6
        have q473 : x10_1 < (l0.length : Int) := of_decide_eq_true zq6
        obtain ⟨ad473, e473, hx473_0, hx473_1, hx473_2, hx473_3, hx473_4⟩ := at_T49 HR0.out x10_1 p473 q473
        (try rw [← Nbq12.out] at hx473_4)
        obtain rfl : ad462 = ad473 := (by injection e473)
        replace hx473_0 := (HB.out.cell (World.block_lt_of_cell? w _ hx473_0)).trans hx473_0
        replace hx473_1 := (HB.out.cell (World.block_lt_of_cell? w _ hx473_1)).trans hx473_1
        replace hx473_2 := (HB.out.cell (World.block_lt_of_cell? w _ hx473_2)).trans hx473_2
        replace hx473_3 := (HB.out.cell (World.block_lt_of_cell? w _ hx473_3)).trans hx473_3
        replace hx473_4 := (HB.out.cell (World.block_lt_of_cell? w _ hx473_4)).trans hx473_4
        replace p473 := eq_true p473
        replace q473 := eq_true q473
        go_wp2_with (first | ((with_reducible refine gate_builtin (b := .append) (xs := #[.tmp 45, .tmp 50]) rfl ?_); at_builtin; refine Kd.R_append k49 (w0 := w) w.heap.size rfl (.tmp 45) (.tmp 50) 43 49 (.agg #[(.int .i64 0), (.int .i64 0), (.int .i64 0), (.int .i64 0), (.bool false)]) 40 rfl Try.underlying43 info49 rfl zq40 zq66 u8 x8_1 (⟨(rd_T49 l0 x10_1).f0, (rd_T49 l0 x10_1).f1, (rd_T49 l0 x10_1).f2, (rd_T49 l0 x10_1).f3, false⟩ : S49) [.int .i64 ((rd_T49 l0 x10_1).f0), .int .i64 ((rd_T49 l0 x10_1).f1), .int .i64 ((rd_T49 l0 x10_1).f2), .int .i64 ((rd_T49 l0 x10_1).f3), .bool false] (fun _ => True) (fun _ => False) rfl rfl ?aP (fun _ hk => hk.elim) ?aF ?aO ?aB ?aS ?aL ?_; (case aP => exact k49_mkM _ _ _ (⟨(rd_T49 l0 x10_1).f0, (rd_T49 l0 x10_1).f1, (rd_T49 l0 x10_1).f2, (rd_T49 l0 x10_1).f3, false⟩ : S49)); (case aB => exact zq0); (case aF => exact (fun _ _ => trivial)); (case aO => exact zq64); (case aS => exact (below_size zq0)); (case aL => have := LMc20.out; omega); intro v475 w21 ho hb hg hat; rw [← Ny474.out] at ho; replace HB := zA (hb); have HO476 := zA (ho); clear HO_8; clear ho hb hg hat))
        go_roundg k1
        case measure => have := HK1.out; omega
        case rel => exact ⟨(y474), (false), (wrap64 (x10_1 + 1)), zq15, zq15, H', ⟨by have := HK1.out; omega⟩, ⟨by (with_reducible repeat (first | apply Kd.R_alloc | apply Kd.R_drewN | apply Kd.R_drew)); exact HO476.out⟩, ⟨by repeat (first | (with_reducible first | exact HB.out | apply below_alloc | apply pw_below_drewN | apply below_drew1) | exact HB.out)⟩⟩
       ·rw [if_neg c20] at H
        exact absurd H zq53
     ·rw [if_neg c11] at H
      exact absurd H zq53
   ·rw [if_neg c6] at H
    have c6b0 : decide (x10_1 < (l0.length : Int)) = false := decide_eq_false c6
    clear c6
    simp only [Option.some.injEq, Prod.mk.injEq] at H
    obtain ⟨rfl, rfl⟩ := H
    go_wp2
    go_ret2
    exact ⟨_, by first | rfl | (simp [errW_none, errW_some] <;> rfl) | (simp [*, errW_none, errW_some] <;> rfl), by (with_reducible repeat (first | apply Kd.R_alloc | apply Kd.R_drewN | apply Kd.R_drew)); exact HO_8.out, by repeat (first | (with_reducible first | exact HB.out | apply below_alloc | apply pw_below_drewN | apply below_drew1) | exact HB.out)⟩

/-! ### spec_DrawNextEnt: function 55 -/
def spec_DrawNextEnt.f (k : Nat) (l0 : List Int) : Option ((List (S49)) × Int × Int) := (spec_l1New.f k l0).bind fun bt477 => ((spec_l8Any.f k bt477.1 bt477.2.1 bt477.2.2).bind fun bt481 => ((spec_l1Below.f bt477.1 bt481.2.1 bt481.2.2 5).bind fun bt486 => ((spec_l1Int.f bt477.1 bt486.2.1 bt486.2.2 (([0, 11, 12, 13, 99] : List Int))).bind fun bt492 => (some (bt481.1, bt486.1, bt492.1)))))
theorem spec_DrawNextEnt.mono : ∀ a0 k, LeO (spec_DrawNextEnt.f k a0) (spec_DrawNextEnt.f (k + 1) a0) := by
 intro a0 k
 unfold spec_DrawNextEnt.f
 repeat' first
   | (with_reducible exact spec_l1New.mono _ _)
   | (with_reducible exact spec_l8Any.mono _ _ _ _)
   | (with_reducible exact LeO.refl _)
   | (with_reducible exact LeO.none _)
   | (with_reducible refine LeO.ite ?_ ?_)
   | (with_reducible refine LeO.bind ?_ (fun _ => ?_))
   | exact spec_l1New.mono _ _
   | exact spec_l8Any.mono _ _ _ _
   | exact LeO.none _
   | refine LeO.ite ?_ ?_
   | refine LeO.bind ?_ (fun _ => ?_)
set_option maxHeartbeats 8000000 in
set_option maxRecDepth 100000 in
theorem spec_DrawNextEnt.calls (k : Nat) (A0 : Option Addr) (c0 : Nat) (l0 : List Int) (r1 : List (S49)) (r2 : Int) (r3 : Int) (w : World) (hr0 : Kd.C (Kd.int .u8) w A0 l0.length l0) (hc0 : l0.length ≤ c0) (h : spec_DrawNextEnt.f k l0 = some (r1, r2, r3)) :
  Calls Try.prog 55 #[.slice A0 l0.length c0] w fun e w' => ∃ v0_ : Value, e = .returned (.tuple #[v0_, .int .i64 r2, .int .i64 r3]) ∧ Kd.R k49 49 w' w.heap.size (fun _ => True) v0_ r1 ∧ Below w.heap.size w w' := by
 have HR0 := zA hr0
 have HC0 := zA hc0
 clear hr0 hc0
 have HB := zA (Below.refl w.heap.size w)
 have H : ((spec_l1New.f k l0).bind fun bt477 => ((spec_l8Any.f k bt477.1 bt477.2.1 bt477.2.2).bind fun bt481 => ((spec_l1Below.f bt477.1 bt481.2.1 bt481.2.2 5).bind fun bt486 => ((spec_l1Int.f bt477.1 bt486.2.1 bt486.2.2 (([0, 11, 12, 13, 99] : List Int))).bind fun bt492 => (some (bt481.1, bt486.1, bt492.1)))))) = some (r1, r2, r3) := h
 clear h
 obtain ⟨⟨t477, t478, t479⟩, A2, H⟩ := zB H
 try dsimp only at H
 obtain ⟨⟨t481, t484, t485⟩, A3, H⟩ := zB H
 try dsimp only at H
 obtain ⟨⟨t486, t487, t488⟩, A4, H⟩ := zB H
 try dsimp only at H
 obtain ⟨y489, hy489⟩ : ∃ y_ : List Int, y_ = (([0, 11, 12, 13, 99] : List Int)) := ⟨_, rfl⟩
 replace H : ((spec_l1Int.f t477 t487 t488 y489).bind fun bt492 => (some (t481, t486, bt492.1))) = some (r1, r2, r3) := by first | (rw [hy489]; with_reducible exact H) | (have H2_ := (Option.bind_some _ _).symm.trans H; rw [hy489]; with_reducible exact H2_) | (have H2_ := (Option.bind_some _ _).symm.trans H; with_reducible exact H2_) | with_reducible exact H | (rw [hy489]; exact H) | exact H
 have Ny489 := zA hy489
 clear hy489
 obtain ⟨⟨t492, t493, t494⟩, A5, H⟩ := zB H
 try dsimp only at H
 simp only [Option.some.injEq, Prod.mk.injEq] at H
 obtain ⟨rfl, rfl, rfl⟩ := H
 go_enter Try.func55, Try.ntmps55
 go_wp2_with (first | ((with_reducible refine gate_callee (f := 104) rfl ?_); refine goesL_ (some 7) rfl rfl Try.func104 (by kernel_rfl) rfl #[.slice A0 l0.length c0] rfl zq1 ?_; (with_reducible refine (spec_l1New.calls k _ _ l0 t477 t478 t479 w _ ?side1 ?side2 ?side3 A2.out).mono ?_); (case side1 => repeat (first | (with_reducible first | exact HB.out | apply below_alloc | apply pw_below_drewN | apply below_drew1) | exact HB.out)); (case side2 => exact HR0.out); (case side3 => exact HC0.out); rintro e w6 ⟨g480, rfl, hi, hb, hb2⟩; refine ⟨_, rfl, ?_⟩; replace HB := zA (hb); have HI480 := zA (hi); clear hb hb2 hi) | ((with_reducible refine gate_callee (f := 139) rfl ?_); refine goesL_ (some 9) rfl rfl Try.func139 (by kernel_rfl) rfl #[.pointer (some ⟨g480, 0, none⟩)] rfl zq1 ?_; (with_reducible refine (spec_l8Any.calls k g480 t477 t478 t479 t481 t484 t485 w _ ?side1 ?side2 A3.out).mono ?_); (case side1 => repeat (first | (with_reducible first | exact HI480.out | apply IsS170.alloc | apply IsS170.drewN | apply IsS170.drew | apply IsS170.set_1 | apply IsS170.set_2) | exact HI480.out)); (case side2 => repeat (first | (with_reducible first | exact HB.out | apply below_alloc | apply pw_below_drewN | apply below_drew1 | refine below_set ?_ (IsS170.ge HI480.out)) | exact HB.out)); rintro e w7 ⟨v482, rfl, ho0, hi, hb, hk⟩; refine ⟨_, rfl, ?_⟩; have HO483 := zA (Kd.R_lower ho0 (below_size zq60)); replace HB := zA (hb); replace HI480 := zA (hi); clear hb hk hi ho0) | ((with_reducible refine gate_callee (f := 131) rfl ?_); refine goesL_ (some 11) rfl rfl Try.func131 (by kernel_rfl) rfl #[.pointer (some ⟨g480, 0, none⟩), .int .i64 5] rfl zq1 ?_; (with_reducible refine (spec_l1Below.calls g480 t477 t484 t485 5 t486 t487 t488 w _ ?side1 ?side2 A4.out).mono ?_); (case side1 => repeat (first | (with_reducible first | exact HI480.out | apply IsS170.alloc | apply IsS170.drewN | apply IsS170.drew | apply IsS170.set_1 | apply IsS170.set_2) | exact HI480.out)); (case side2 => repeat (first | (with_reducible first | exact HB.out | apply below_alloc | apply pw_below_drewN | apply below_drew1 | refine below_set ?_ (IsS170.ge HI480.out)) | exact HB.out)); rintro e w8 ⟨rfl, hi, hb, hk⟩; refine ⟨_, rfl, ?_⟩; replace HO483 := zA (Kd.R_mono (Kd.R_keep (IsS170.apart (show IsS170 w _ g480 t477 t484 t485 from by repeat (first | (with_reducible first | exact HI480.out | apply IsS170.alloc | apply IsS170.drewN | apply IsS170.drew | apply IsS170.set_1 | apply IsS170.set_2) | exact HI480.out)) zq70 zq40) hk (fun _ h => h.2)) (fun _ h => h.1)); replace HB := zA (hb); replace HI480 := zA (hi); clear hb hk hi) | ((with_reducible refine gate_dst (N := 13) rfl ?_); refine Kd.R_lit (Kd.int .i64) _ 3 ?hg (N := 13) ?hd (xs := ([0, 11, 12, 13, 99] : List Int)) (inner := [.int .i64 0, .int .i64 11, .int .i64 12, .int .i64 13, .int .i64 99]) (ok := fun _ => True) (okp := fun _ => True) ?hr ?hp (fun _ hk => hk) trivial (Below.refl _ _) (Nat.le_refl _) zq53 ?_; (case hd => rfl); (case hg => rfl); (case hr => first | (go_simp; done) | (go_simp; rfl)); (case hp => exact (Reps.one (show Kd.M (Kd.int .i64) _ _ _ 0 [.int .i64 0] from rfl) (Reps.one (show Kd.M (Kd.int .i64) _ _ _ 11 [.int .i64 11] from rfl) (Reps.one (show Kd.M (Kd.int .i64) _ _ _ 12 [.int .i64 12] from rfl) (Reps.one (show Kd.M (Kd.int .i64) _ _ _ 13 [.int .i64 13] from rfl) (Reps.one (show Kd.M (Kd.int .i64) _ _ _ 99 [.int .i64 99] from rfl) (Reps.none _ _))))))); intro v490 w9 ho10 hb hg_ hnew_; clear hg_ hnew_; (first | rw [← Ny489.out] at ho10 | (simp only [Int.reduceToNat] at ho10; rw [← Ny489.out] at ho10)); replace HO483 := zA (Kd.R_below zq70 hb); have HO491 := zA (Kd.R_lower ho10 (below_size zq60)); replace HB := zA (below_step zq60 hb); replace HI480 := zA (IsS170.below (by repeat (first | (with_reducible first | exact HI480.out | apply IsS170.alloc | apply IsS170.drewN | apply IsS170.drew | apply IsS170.set_1 | apply IsS170.set_2) | exact HI480.out)) hb); clear hb ho10; obtain ⟨Ao11, co11, eo11⟩ := Kd.R_slice HO491.out; subst eo11) | ((with_reducible refine gate_callee (f := 140) rfl ?_); refine goesL_ (some 14) rfl rfl Try.func140 (by kernel_rfl) rfl #[.pointer (some ⟨g480, 0, none⟩), .slice Ao11 y489.length co11] rfl zq1 ?_; (with_reducible refine (spec_l1Int.calls g480 t477 t487 t488 _ _ y489 t492 t493 t494 w _ ?side1 ?side2 ?side3 ?side4 ?side5 A5.out).mono ?_); (case side1 => repeat (first | (with_reducible first | exact HI480.out | apply IsS170.alloc | apply IsS170.drewN | apply IsS170.drew | apply IsS170.set_1 | apply IsS170.set_2) | exact HI480.out)); (case side2 => repeat (first | (with_reducible first | exact HB.out | apply below_alloc | apply pw_below_drewN | apply below_drew1 | refine below_set ?_ (IsS170.ge HI480.out)) | exact HB.out)); (case side3 => repeat (first | exact (Kd.R_reads' HO491.out).2.2 | (with_reducible refine Kd.C_alloc ?_ _) | (with_reducible refine Kd.C_drewN ?_ _) | (with_reducible refine Kd.C_drew ?_))); (case side4 => exact (Kd.R_reads' HO491.out).2.1); (case side5 => exact far_slice (IsS170.own_ne HI480.out HO491.out zq40)); rintro e w12 ⟨rfl, hi, hb, hk⟩; refine ⟨_, rfl, ?_⟩; replace HO483 := zA (Kd.R_mono (Kd.R_keep (IsS170.apart (show IsS170 w _ g480 t477 t487 t488 from by repeat (first | (with_reducible first | exact HI480.out | apply IsS170.alloc | apply IsS170.drewN | apply IsS170.drew | apply IsS170.set_1 | apply IsS170.set_2) | exact HI480.out)) zq70 zq40) hk (fun _ h => h.2)) (fun _ h => h.1)); replace HO491 := zA (Kd.R_mono (Kd.R_keep (IsS170.apart (show IsS170 w _ g480 t477 t487 t488 from by repeat (first | (with_reducible first | exact HI480.out | apply IsS170.alloc | apply IsS170.drewN | apply IsS170.drew | apply IsS170.set_1 | apply IsS170.set_2) | exact HI480.out)) (by (with_reducible repeat (first | apply Kd.R_alloc | apply Kd.R_drewN | apply Kd.R_drew)); exact HO491.out) zq40) hk (fun _ h => h.2)) (fun _ h => h.1)); replace HB := zA (hb); replace HI480 := zA (hi); clear hb hk hi))
 go_ret3
 exact ⟨_, by first | rfl | (simp [errW_none, errW_some] <;> rfl) | (simp [*, errW_none, errW_some] <;> rfl), by (with_reducible repeat (first | apply Kd.R_alloc | apply Kd.R_drewN | apply Kd.R_drew)); exact HO483.out, by repeat (first | (with_reducible first | exact HB.out | apply below_alloc | apply pw_below_drewN | apply below_drew1 | refine below_set ?_ (IsS170.ge HI480.out)) | exact HB.out)⟩

/-! ### spec_DrawFlushPort: function 56 -/
def spec_DrawFlushPort.f (k : Nat) (l0 : List Int) : Option ((List (S49)) × Int) := (spec_l1New.f k l0).bind fun bt495 => ((spec_l8Any.f k bt495.1 bt495.2.1 bt495.2.2).bind fun bt499 => ((spec_l1Int.f bt495.1 bt499.2.1 bt499.2.2 (([0, 1, 2, 3, (-1)] : List Int))).bind fun bt507 => (some (bt499.1, bt507.1))))
theorem spec_DrawFlushPort.mono : ∀ a0 k, LeO (spec_DrawFlushPort.f k a0) (spec_DrawFlushPort.f (k + 1) a0) := by
 intro a0 k
 unfold spec_DrawFlushPort.f
 repeat' first
   | (with_reducible exact spec_l1New.mono _ _)
   | (with_reducible exact spec_l8Any.mono _ _ _ _)
   | (with_reducible exact LeO.refl _)
   | (with_reducible exact LeO.none _)
   | (with_reducible refine LeO.ite ?_ ?_)
   | (with_reducible refine LeO.bind ?_ (fun _ => ?_))
   | exact spec_l1New.mono _ _
   | exact spec_l8Any.mono _ _ _ _
   | exact LeO.none _
   | refine LeO.ite ?_ ?_
   | refine LeO.bind ?_ (fun _ => ?_)
set_option maxHeartbeats 8000000 in
set_option maxRecDepth 100000 in
theorem spec_DrawFlushPort.calls (k : Nat) (A0 : Option Addr) (c0 : Nat) (l0 : List Int) (r1 : List (S49)) (r2 : Int) (w : World) (hr0 : Kd.C (Kd.int .u8) w A0 l0.length l0) (hc0 : l0.length ≤ c0) (h : spec_DrawFlushPort.f k l0 = some (r1, r2)) :
  Calls Try.prog 56 #[.slice A0 l0.length c0] w fun e w' => ∃ v0_ : Value, e = .returned (.tuple #[v0_, .int .i64 r2]) ∧ Kd.R k49 49 w' w.heap.size (fun _ => True) v0_ r1 ∧ Below w.heap.size w w' := by
 have HR0 := zA hr0
 have HC0 := zA hc0
 clear hr0 hc0
 have HB := zA (Below.refl w.heap.size w)
 have H : ((spec_l1New.f k l0).bind fun bt495 => ((spec_l8Any.f k bt495.1 bt495.2.1 bt495.2.2).bind fun bt499 => ((spec_l1Int.f bt495.1 bt499.2.1 bt499.2.2 (([0, 1, 2, 3, (-1)] : List Int))).bind fun bt507 => (some (bt499.1, bt507.1))))) = some (r1, r2) := h
 clear h
 obtain ⟨⟨t495, t496, t497⟩, A2, H⟩ := zB H
 try dsimp only at H
 obtain ⟨⟨t499, t502, t503⟩, A3, H⟩ := zB H
 try dsimp only at H
 obtain ⟨y504, hy504⟩ : ∃ y_ : List Int, y_ = (([0, 1, 2, 3, (-1)] : List Int)) := ⟨_, rfl⟩
 replace H : ((spec_l1Int.f t495 t502 t503 y504).bind fun bt507 => (some (t499, bt507.1))) = some (r1, r2) := by first | (rw [hy504]; with_reducible exact H) | (have H2_ := (Option.bind_some _ _).symm.trans H; rw [hy504]; with_reducible exact H2_) | (have H2_ := (Option.bind_some _ _).symm.trans H; with_reducible exact H2_) | with_reducible exact H | (rw [hy504]; exact H) | exact H
 have Ny504 := zA hy504
 clear hy504
 obtain ⟨⟨t507, t508, t509⟩, A4, H⟩ := zB H
 try dsimp only at H
 simp only [Option.some.injEq, Prod.mk.injEq] at H
 obtain ⟨rfl, rfl⟩ := H
 go_enter Try.func56, Try.ntmps56
 go_wp2_with (first | ((with_reducible refine gate_callee (f := 104) rfl ?_); refine goesL_ (some 6) rfl rfl Try.func104 (by kernel_rfl) rfl #[.slice A0 l0.length c0] rfl zq1 ?_; (with_reducible refine (spec_l1New.calls k _ _ l0 t495 t496 t497 w _ ?side1 ?side2 ?side3 A2.out).mono ?_); (case side1 => repeat (first | (with_reducible first | exact HB.out | apply below_alloc | apply pw_below_drewN | apply below_drew1) | exact HB.out)); (case side2 => exact HR0.out); (case side3 => exact HC0.out); rintro e w5 ⟨g498, rfl, hi, hb, hb2⟩; refine ⟨_, rfl, ?_⟩; replace HB := zA (hb); have HI498 := zA (hi); clear hb hb2 hi) | ((with_reducible refine gate_callee (f := 139) rfl ?_); refine goesL_ (some 8) rfl rfl Try.func139 (by kernel_rfl) rfl #[.pointer (some ⟨g498, 0, none⟩)] rfl zq1 ?_; (with_reducible refine (spec_l8Any.calls k g498 t495 t496 t497 t499 t502 t503 w _ ?side1 ?side2 A3.out).mono ?_); (case side1 => repeat (first | (with_reducible first | exact HI498.out | apply IsS170.alloc | apply IsS170.drewN | apply IsS170.drew | apply IsS170.set_1 | apply IsS170.set_2) | exact HI498.out)); (case side2 => repeat (first | (with_reducible first | exact HB.out | apply below_alloc | apply pw_below_drewN | apply below_drew1 | refine below_set ?_ (IsS170.ge HI498.out)) | exact HB.out)); rintro e w6 ⟨v500, rfl, ho0, hi, hb, hk⟩; refine ⟨_, rfl, ?_⟩; have HO501 := zA (Kd.R_lower ho0 (below_size zq61)); replace HB := zA (hb); replace HI498 := zA (hi); clear hb hk hi ho0) | ((with_reducible refine gate_dst (N := 10) rfl ?_); refine Kd.R_lit (Kd.int .i64) _ 3 ?hg (N := 10) ?hd (xs := ([0, 1, 2, 3, (-1)] : List Int)) (inner := [.int .i64 0, .int .i64 1, .int .i64 2, .int .i64 3, .int .i64 (-1)]) (ok := fun _ => True) (okp := fun _ => True) ?hr ?hp (fun _ hk => hk) trivial (Below.refl _ _) (Nat.le_refl _) zq53 ?_; (case hd => rfl); (case hg => rfl); (case hr => first | (go_simp; done) | (go_simp; rfl)); (case hp => exact (Reps.one (show Kd.M (Kd.int .i64) _ _ _ 0 [.int .i64 0] from rfl) (Reps.one (show Kd.M (Kd.int .i64) _ _ _ 1 [.int .i64 1] from rfl) (Reps.one (show Kd.M (Kd.int .i64) _ _ _ 2 [.int .i64 2] from rfl) (Reps.one (show Kd.M (Kd.int .i64) _ _ _ 3 [.int .i64 3] from rfl) (Reps.one (show Kd.M (Kd.int .i64) _ _ _ (-1) [.int .i64 (-1)] from rfl) (Reps.none _ _))))))); intro v505 w7 ho8 hb hg_ hnew_; clear hg_ hnew_; (first | rw [← Ny504.out] at ho8 | (simp only [Int.reduceToNat] at ho8; rw [← Ny504.out] at ho8)); replace HO501 := zA (Kd.R_below zq80 hb); have HO506 := zA (Kd.R_lower ho8 (below_size zq61)); replace HB := zA (below_step zq61 hb); replace HI498 := zA (IsS170.below (by repeat (first | (with_reducible first | exact HI498.out | apply IsS170.alloc | apply IsS170.drewN | apply IsS170.drew | apply IsS170.set_1 | apply IsS170.set_2) | exact HI498.out)) hb); clear hb ho8; obtain ⟨Ao9, co9, eo9⟩ := Kd.R_slice HO506.out; subst eo9) | ((with_reducible refine gate_callee (f := 140) rfl ?_); refine goesL_ (some 11) rfl rfl Try.func140 (by kernel_rfl) rfl #[.pointer (some ⟨g498, 0, none⟩), .slice Ao9 y504.length co9] rfl zq1 ?_; (with_reducible refine (spec_l1Int.calls g498 t495 t502 t503 _ _ y504 t507 t508 t509 w _ ?side1 ?side2 ?side3 ?side4 ?side5 A4.out).mono ?_); (case side1 => repeat (first | (with_reducible first | exact HI498.out | apply IsS170.alloc | apply IsS170.drewN | apply IsS170.drew | apply IsS170.set_1 | apply IsS170.set_2) | exact HI498.out)); (case side2 => repeat (first | (with_reducible first | exact HB.out | apply below_alloc | apply pw_below_drewN | apply below_drew1 | refine below_set ?_ (IsS170.ge HI498.out)) | exact HB.out)); (case side3 => repeat (first | exact (Kd.R_reads' HO506.out).2.2 | (with_reducible refine Kd.C_alloc ?_ _) | (with_reducible refine Kd.C_drewN ?_ _) | (with_reducible refine Kd.C_drew ?_))); (case side4 => exact (Kd.R_reads' HO506.out).2.1); (case side5 => exact far_slice (IsS170.own_ne HI498.out HO506.out zq40)); rintro e w10 ⟨rfl, hi, hb, hk⟩; refine ⟨_, rfl, ?_⟩; replace HO501 := zA (Kd.R_mono (Kd.R_keep (IsS170.apart (show IsS170 w _ g498 t495 t502 t503 from by repeat (first | (with_reducible first | exact HI498.out | apply IsS170.alloc | apply IsS170.drewN | apply IsS170.drew | apply IsS170.set_1 | apply IsS170.set_2) | exact HI498.out)) zq80 zq40) hk (fun _ h => h.2)) (fun _ h => h.1)); replace HO506 := zA (Kd.R_mono (Kd.R_keep (IsS170.apart (show IsS170 w _ g498 t495 t502 t503 from by repeat (first | (with_reducible first | exact HI498.out | apply IsS170.alloc | apply IsS170.drewN | apply IsS170.drew | apply IsS170.set_1 | apply IsS170.set_2) | exact HI498.out)) (by (with_reducible repeat (first | apply Kd.R_alloc | apply Kd.R_drewN | apply Kd.R_drew)); exact HO506.out) zq40) hk (fun _ h => h.2)) (fun _ h => h.1)); replace HB := zA (hb); replace HI498 := zA (hi); clear hb hk hi))
 go_ret2
 exact ⟨_, by first | rfl | (simp [errW_none, errW_some] <;> rfl) | (simp [*, errW_none, errW_some] <;> rfl), by (with_reducible repeat (first | apply Kd.R_alloc | apply Kd.R_drewN | apply Kd.R_drew)); exact HO501.out, by repeat (first | (with_reducible first | exact HB.out | apply below_alloc | apply pw_below_drewN | apply below_drew1 | refine below_set ?_ (IsS170.ge HI498.out)) | exact HB.out)⟩

end Go.Proofs.Ytkcgghgkmgbphaa.PFnFdbsBent
