-- WRITTEN BY a turned copy of the kit's printer (wip/patch_print.py), for this claim
import Derived.Test.YtkcgghgkmgbphaaPFnVecsx0
import Derived.Test.YtkcgghgkmgbphaaPFnVecsx2
import Derived.Test.YtkcgghgkmgbphaaPFnVecsx5
import Derived.Test.YtkcgghgkmgbphaaPFnVecsx10
namespace Go.Proofs.Ytkcgghgkmgbphaa.PFnVecs
open Go.RowKit Go.Proofs.YtkcgghgkmgbphaaW.PrintWords Go.Proofs.YtkcgghgkmgbphaaW.PrintLast Go.Proofs.YtkcgghgkmgbphaaW.PrintMore
attribute [local go_sem] max2_int min2_int max_two min_two max_three min_three max_four min_four   -- for this text's walks alone
set_option linter.unusedVariables false
set_option linter.unusedSimpArgs false

attribute [local go_sem] cell_setCell_m
/-! ### spec_PutVec: function 148 -/
def spec_PutVec.f (k : Nat) (a0_0 : Int) (a0_1 : Int) (a0_2 : Int) (a0_3 : Int) (a0_4 : Int) : Option (List Int) := (spec_VecOk.f a0_0 a0_1 a0_2 a0_3 a0_4).bind fun t471 => (if t471 = true then ((spec_PutInt.f k a0_0).bind fun t478 => ((spec_PutTlv.f k (([] : List Int)) 2 t478).bind fun t481 => ((spec_PutInt.f k a0_1).bind fun t484 => ((spec_PutTlv.f k t481 2 t484).bind fun t487 => ((spec_PutInt.f k a0_2).bind fun t490 => ((spec_PutTlv.f k t487 2 t490).bind fun t493 => ((spec_PutInt.f k a0_3).bind fun t496 => ((spec_PutTlv.f k t493 2 t496).bind fun t499 => ((spec_PutInt.f k a0_4).bind fun t502 => ((spec_PutTlv.f k t499 2 t502).bind fun t505 => (some t505))))))))))) else (some (([] : List Int))))
theorem spec_PutVec.mono : ∀ a0 a1 a2 a3 a4 k, LeO (spec_PutVec.f k a0 a1 a2 a3 a4) (spec_PutVec.f (k + 1) a0 a1 a2 a3 a4) := by
 intro a0 a1 a2 a3 a4 k
 unfold spec_PutVec.f
 repeat' first
   | (with_reducible exact spec_PutInt.mono _ _)
   | (with_reducible exact spec_PutTlv.mono _ _ _ _)
   | (with_reducible exact LeO.refl _)
   | (with_reducible exact LeO.none _)
   | (with_reducible refine LeO.ite ?_ ?_)
   | (with_reducible refine LeO.bind ?_ (fun _ => ?_))
   | exact spec_PutInt.mono _ _
   | exact spec_PutTlv.mono _ _ _ _
   | exact LeO.none _
   | refine LeO.ite ?_ ?_
   | refine LeO.bind ?_ (fun _ => ?_)
def spec_PutVec.T3 : Bool × List (List Nat × List Nat) := (true, [([], []), ([], []), ([1], [1]), ([2], [2]), ([0, 3, 3], [0, 3]), ([], []), ([5], [5]), ([6, 4], [6]), ([4, 7, 7], [4, 7]), ([], []), ([9], [9]), ([10, 8], [10]), ([8, 11, 11], [8, 11]), ([12, 12, 0, 1, 2, 3, 4, 5, 6, 7, 8, 9, 10, 11, 12], [12])])
def spec_PutVec.B3 : List Nat := [0, 0, 2, 6, 15, 0, 32, 127, 255, 0, 512, 2047, 4095, 8191]
theorem spec_PutVec.tab3 : rtab .any (opsOf Try.f148 3) = spec_PutVec.T3 := by kernel_rfl
theorem spec_PutVec.bits3 : waitsOk spec_PutVec.T3.2 spec_PutVec.B3 = true := by kernel_rfl
def spec_PutVec.T4 : Bool × List (List Nat × List Nat) := (true, [([], []), ([], []), ([1], [1]), ([2], [2]), ([0, 3, 3], [0, 3]), ([], []), ([5], [5]), ([6, 4], [6]), ([4, 7, 7], [4, 7]), ([8, 8, 0, 1, 2, 3, 4, 5, 6, 7, 8], [8])])
def spec_PutVec.B4 : List Nat := [0, 0, 2, 6, 15, 0, 32, 127, 255, 511]
theorem spec_PutVec.tab4 : rtab .any (opsOf Try.f148 4) = spec_PutVec.T4 := by kernel_rfl
theorem spec_PutVec.bits4 : waitsOk spec_PutVec.T4.2 spec_PutVec.B4 = true := by kernel_rfl
set_option maxHeartbeats 8000000 in
set_option maxRecDepth 100000 in
theorem spec_PutVec.calls (k : Nat) (a0_0 : Int) (a0_1 : Int) (a0_2 : Int) (a0_3 : Int) (a0_4 : Int) (r : List Int) (w : World) (h : spec_PutVec.f k a0_0 a0_1 a0_2 a0_3 a0_4 = some r) :
  Calls Try.prog 148 #[.agg #[.int .i64 a0_0, .int .i64 a0_1, .int .i64 a0_2, .int .i64 a0_3, .int .i64 a0_4]] w fun e w' => ∃ v0_ : Value, e = .returned (v0_) ∧ Kd.R (Kd.int .u8) 5 w' w.heap.size (fun _ => True) v0_ r ∧ Below w.heap.size w w' := by
 have hu39 := Try.underlying39
 have HB := zA (Below.refl w.heap.size w)
 have H : ((spec_VecOk.f a0_0 a0_1 a0_2 a0_3 a0_4).bind fun t471 => (if t471 = true then ((spec_PutInt.f k a0_0).bind fun t478 => ((spec_PutTlv.f k (([] : List Int)) 2 t478).bind fun t481 => ((spec_PutInt.f k a0_1).bind fun t484 => ((spec_PutTlv.f k t481 2 t484).bind fun t487 => ((spec_PutInt.f k a0_2).bind fun t490 => ((spec_PutTlv.f k t487 2 t490).bind fun t493 => ((spec_PutInt.f k a0_3).bind fun t496 => ((spec_PutTlv.f k t493 2 t496).bind fun t499 => ((spec_PutInt.f k a0_4).bind fun t502 => ((spec_PutTlv.f k t499 2 t502).bind fun t505 => (some t505))))))))))) else (some (([] : List Int))))) = some r := h
 clear h
 obtain ⟨t471, A2, H⟩ := zB H
 try dsimp only at H
 by_cases c3 : t471 = true
 ·subst c3
  rw [if_pos rfl] at H
  obtain ⟨y475, hy475⟩ : ∃ y_ : List Int, y_ = (([] : List Int)) := ⟨_, rfl⟩
  replace H : ((spec_PutInt.f k a0_0).bind fun t478 => ((spec_PutTlv.f k y475 2 t478).bind fun t481 => ((spec_PutInt.f k a0_1).bind fun t484 => ((spec_PutTlv.f k t481 2 t484).bind fun t487 => ((spec_PutInt.f k a0_2).bind fun t490 => ((spec_PutTlv.f k t487 2 t490).bind fun t493 => ((spec_PutInt.f k a0_3).bind fun t496 => ((spec_PutTlv.f k t493 2 t496).bind fun t499 => ((spec_PutInt.f k a0_4).bind fun t502 => ((spec_PutTlv.f k t499 2 t502).bind fun t505 => (some t505))))))))))) = some r := by first | (rw [hy475]; with_reducible exact H) | (have H2_ := (Option.bind_some _ _).symm.trans H; rw [hy475]; with_reducible exact H2_) | (have H2_ := (Option.bind_some _ _).symm.trans H; with_reducible exact H2_) | with_reducible exact H | (rw [hy475]; exact H) | exact H
  have Ny475 := zA hy475
  clear hy475
  obtain ⟨t478, A4, H⟩ := zB H
  try dsimp only at H
  obtain ⟨t481, A5, H⟩ := zB H
  try dsimp only at H
  obtain ⟨t484, A6, H⟩ := zB H
  try dsimp only at H
  obtain ⟨t487, A7, H⟩ := zB H
  try dsimp only at H
  obtain ⟨t490, A8, H⟩ := zB H
  try dsimp only at H
  obtain ⟨t493, A9, H⟩ := zB H
  try dsimp only at H
  obtain ⟨t496, A10, H⟩ := zB H
  try dsimp only at H
  obtain ⟨t499, A11, H⟩ := zB H
  try dsimp only at H
  obtain ⟨t502, A12, H⟩ := zB H
  try dsimp only at H
  obtain ⟨t505, A13, H⟩ := zB H
  try dsimp only at H
  obtain rfl := Option.some.inj H
  go_enter Try.func148, Try.ntmps148
  try go_wp2_with (first | ((with_reducible refine gate_dst (N := 1) rfl ?_); refine box_event ?hg (N := 1) ?hd (cs := #[.int .i64 a0_0, .int .i64 a0_1, .int .i64 a0_2, .int .i64 a0_3, .int .i64 a0_4]) (t := 39) ?hr ?_; (case hd => rfl); (case hg => rfl); (case hr => first | (go_simp; done) | (go_simp; rfl)); intro gb470 hg w14 hbox hb; have BK470 := zA (hbox); have GW470 := zA ((zq3 : w.heap.size ≤ gb470)); have GE470 := zA ((zq3 : w.heap.size ≤ gb470)); replace HB := zA (below_step zq0 hb); clear hb hbox hg; have hcz15_0 : w14.cell? ⟨gb470, 0, none⟩ = some (.int .i64 a0_0) := (blk_cell BK470.out 0).trans rfl; have hcz15_1 : w14.cell? ⟨gb470, 1, none⟩ = some (.int .i64 a0_1) := (blk_cell BK470.out 1).trans rfl; have hcz15_2 : w14.cell? ⟨gb470, 2, none⟩ = some (.int .i64 a0_2) := (blk_cell BK470.out 2).trans rfl; have hcz15_3 : w14.cell? ⟨gb470, 3, none⟩ = some (.int .i64 a0_3) := (blk_cell BK470.out 3).trans rfl; have hcz15_4 : w14.cell? ⟨gb470, 4, none⟩ = some (.int .i64 a0_4) := (blk_cell BK470.out 4).trans rfl; have hfz15_0 := blk_frozen BK470.out 0; have hfz15_1 := blk_frozen BK470.out 1; have hfz15_2 := blk_frozen BK470.out 2; have hfz15_3 := blk_frozen BK470.out 3; have hfz15_4 := blk_frozen BK470.out 4) | ((with_reducible refine gate_callee (f := 66) rfl ?_); refine goesL_ (some 5) rfl rfl Try.func66 (by kernel_rfl) rfl #[.agg #[.int .i64 a0_0, .int .i64 a0_1, .int .i64 a0_2, .int .i64 a0_3, .int .i64 a0_4]] rfl zq1 ?_; (with_reducible refine (spec_VecOk.calls a0_0 a0_1 a0_2 a0_3 a0_4 true _ A2.out).mono ?_); rintro e w16 ⟨rfl, hb⟩; refine ⟨_, rfl, ?_⟩; replace BK470 := zA (blk_below (g := gb470) (o := .cells #[.int .i64 a0_0, .int .i64 a0_1, .int .i64 a0_2, .int .i64 a0_3, .int .i64 a0_4] 39 (0, 0)) zq20 hb); replace HB := zA (below_step zq5 hb); clear hb))
  have n0_ := zA (blk_drew BK470.out)
  have n1_ := zA (below_drew1 HB.out)
  clear BK470
  clear HB
  have BK470 := n0_
  have HB := n1_
  clear n0_ n1_
  refine start_ (n := 14) (S := fun w' => True) (ds := []) #[false, false, false, false, false, false, false, false, false, false, false, false, false, false] (by kernel_rfl) rfl rfl trivial (fun hHeld => ?_); refine with_tabW spec_PutVec.tab3 spec_PutVec.bits3 (fun HT_ HW_ => ?_)
  generalize w16.drew = w17 at BK470 HB hHeld ⊢
  refine pure_ (i := 1) (N := some 9) (v := ?_) (a' := ?_) #[false, true, false, false, false, false, false, false, false, false, false, false, false, false] rfl rfl (any_of HT_.out (by kernel_rfl)) (fun _ _ _ h => h) (Or.inl ⟨by rfl, ?_⟩) ?_ ?_
  rotate_left
  ·intro w'
   go_simp
   with_reducible rfl
  rotate_left
  ·simp only [Act.put, List.setIfInBounds_toArray, List.set_cons_zero, List.set_cons_succ, i64_w, i32_w]
   rfl
  refine pure_ (i := 5) (N := some 13) (v := ?_) (a' := ?_) #[false, true, false, false, false, true, false, false, false, false, false, false, false, false] rfl rfl (any_of HT_.out (by kernel_rfl)) (fun _ _ _ h => h) (Or.inl ⟨by rfl, ?_⟩) ?_ ?_
  rotate_left
  ·intro w'
   go_simp
   with_reducible rfl
  rotate_left
  ·simp only [Act.put, List.setIfInBounds_toArray, List.set_cons_zero, List.set_cons_succ, i64_w, i32_w]
   rfl
  refine pure_ (i := 9) (N := some 17) (v := ?_) (a' := ?_) #[false, true, false, false, false, true, false, false, false, true, false, false, false, false] rfl rfl (any_of HT_.out (by kernel_rfl)) (fun _ _ _ h => h) (Or.inl ⟨by rfl, ?_⟩) ?_ ?_
  rotate_left
  ·intro w'
   go_simp
   with_reducible rfl
  rotate_left
  ·simp only [Act.put, List.setIfInBounds_toArray, List.set_cons_zero, List.set_cons_succ, i64_w, i32_w]
   rfl
  refine inv_at [0, 2, 3, 4, 6, 7, 8, 10, 11, 12, 13] (fun a0_ b a w' => ∃ (v476 : Value) (v479 : Value) (v482 : Value) (v485 : Value) (v488 : Value) (v491 : Value) (v494 : Value) (m13_ : Value), a = putSel a0_ b [(0, 8, v476), (2, 10, .int .i64 a0_0), (3, 11, v479), (4, 12, v482), (6, 14, .int .i64 a0_1), (7, 15, v485), (8, 16, v488), (10, 18, .int .i64 a0_2), (11, 19, v491), (12, 20, v494), (13, 3, m13_)] ∧ (w'.heap[gb470]? = some (.cells #[.int .i64 a0_0, .int .i64 a0_1, .int .i64 a0_2, .int .i64 a0_3, .int .i64 a0_4] 39 (0, 0))) ∧ (Below w.heap.size w w') ∧ (b 0 = true → Kd.R (Kd.int .u8) 5 w' w.heap.size (fun _ => True) v476 y475) ∧ (b 3 = true → Kd.R (Kd.int .u8) 5 w' w.heap.size (fun _ => True) v479 t478) ∧ (b 4 = true → Kd.R (Kd.int .u8) 5 w' w.heap.size (fun _ => True) v482 t481) ∧ (b 7 = true → Kd.R (Kd.int .u8) 5 w' w.heap.size (fun _ => True) v485 t484) ∧ (b 8 = true → Kd.R (Kd.int .u8) 5 w' w.heap.size (fun _ => True) v488 t487) ∧ (b 11 = true → Kd.R (Kd.int .u8) 5 w' w.heap.size (fun _ => True) v491 t490) ∧ (b 12 = true → Kd.R (Kd.int .u8) 5 w' w.heap.size (fun _ => True) v494 t493) ∧ (b 13 = true → (m13_ : Value) = v494)) HT_.out HW_.out (by kernel_rfl) (by kernel_rfl) ?_ ?_ ?_
  ·exact ⟨.bool false, .bool false, .bool false, .bool false, .bool false, .bool false, .bool false, .bool false, by simp only [putSel, Bool.false_eq_true, if_false], BK470.out, HB.out, fun h_ => absurd h_ zq55, fun h_ => absurd h_ zq55, fun h_ => absurd h_ zq55, fun h_ => absurd h_ zq55, fun h_ => absurd h_ zq55, fun h_ => absurd h_ zq55, fun h_ => absurd h_ zq55, fun h_ => absurd h_ zq55⟩
  ·skip
   clear BK470 HB
   refine steps_cons ?_ ?_
   ·rintro b a w' ⟨v476, v479, v482, v485, v488, v491, v494, m13_, ha, Q_BK470, Q_HB, Q_HO477, Q_HO480, Q_HO483, Q_HO486, Q_HO489, Q_HO492, Q_HO495, Q_X13_⟩ hb_ hon hoff
    refine ⟨_, rfl, fun K hK => ?_⟩
    replace ha := zA ha
    have BK470 := zA Q_BK470
    have HB := zA Q_HB
    refine Kd.R_lit_step (Kd.int .u8) _ 5 ?hg (N := 8) ?hd (xs := ([] : List Int)) (inner := []) (ok := fun _ => True) (okp := fun _ => True) ?hr ?hp (fun _ hk => hk) trivial (Below.refl _ _) (Nat.le_refl _) zq48 ?_; (case hd => rfl); (case hg => rfl); (case hr => first | (go_simp; done) | (go_simp; rfl)); (case hp => exact (Reps.none _ _))
    intro v476 w18 ho19 hb hg_ hnew_
    clear hg_ hnew_
    (first | rw [← Ny475.out] at ho19 | (simp only [Int.reduceToNat] at ho19; rw [← Ny475.out] at ho19))
    have n0_ := zA (Kd.R_lower ho19 (below_size zq5))
    have n1_ := zA (blk_below (g := gb470) (o := .cells #[.int .i64 a0_0, .int .i64 a0_1, .int .i64 a0_2, .int .i64 a0_3, .int .i64 a0_4] 39 (0, 0)) zq20 hb)
    have n2_ := zA (below_step zq5 hb)
    have z_HO480 := fun (h0_ : b 3 = true) => (show Kd.R (Kd.int .u8) 5 w18 w.heap.size (fun _ => True) v479 t478 from by first | exact (Kd.R_elder' zq138 (Kd.R_base ho19) hb) | exact Kd.R_mono (Kd.R_elder' zq138 (Kd.R_base ho19) hb) (fun _ h_ => by first | trivial | exact h_ | exact h_.1))
    clear BK470
    clear HB
    have HO477 := n0_
    have BK470 := n1_
    have HB := n2_
    clear n0_ n1_ n2_
    clear hb ho19
    refine hK.out _ _ ⟨v476, v479, v482, v485, v488, v491, v494, m13_, (by rw [ha.out]; exact putSel_upk 0 hb_ rfl rfl rfl), zq20, zq5, fun _ => zq84, z_HO480, fun h0_ => absurd ((hoff 4 (by kernel_rfl)).symm.trans h0_) zq55, fun h0_ => absurd ((hoff 7 (by kernel_rfl)).symm.trans h0_) zq55, fun h0_ => absurd ((hoff 8 (by kernel_rfl)).symm.trans h0_) zq55, fun h0_ => absurd ((hoff 11 (by kernel_rfl)).symm.trans h0_) zq55, fun h0_ => absurd ((hoff 12 (by kernel_rfl)).symm.trans h0_) zq55, fun h0_ => absurd ((hoff 13 (by kernel_rfl)).symm.trans h0_) zq55⟩
   refine steps_cons ?_ ?_
   ·rintro b a w' ⟨v476, v479, v482, v485, v488, v491, v494, m13_, ha, Q_BK470, Q_HB, Q_HO477, Q_HO480, Q_HO483, Q_HO486, Q_HO489, Q_HO492, Q_HO495, Q_X13_⟩ hb_ hon hoff
    refine ⟨_, rfl, fun K hK => ?_⟩
    have e9 : a.tmps[9]? = some (.pointer (some ⟨gb470, 0, none⟩)) := by rw [ha]; exact (putSel_off rfl).trans rfl
    replace ha := zA ha
    have BK470 := zA Q_BK470
    have HB := zA Q_HB
    have hc0_ : w'.cell? ⟨gb470, 0, none⟩ = some (.int .i64 a0_0) := (blk_cell BK470.out 0).trans rfl
    have hc1_ : w'.cell? ⟨gb470, 1, none⟩ = some (.int .i64 a0_1) := (blk_cell BK470.out 1).trans rfl
    have hc2_ : w'.cell? ⟨gb470, 2, none⟩ = some (.int .i64 a0_2) := (blk_cell BK470.out 2).trans rfl
    have hc3_ : w'.cell? ⟨gb470, 3, none⟩ = some (.int .i64 a0_3) := (blk_cell BK470.out 3).trans rfl
    have hc4_ : w'.cell? ⟨gb470, 4, none⟩ = some (.int .i64 a0_4) := (blk_cell BK470.out 4).trans rfl
    refine value_ (w1 := w') (v := .int .i64 a0_0) zq121 rfl ?_ ?_
    ·go_simp
     (try simp only [i64_w])
     try rfl
    refine hK.out _ _ ⟨v476, v479, v482, v485, v488, v491, v494, m13_, (by rw [ha.out]; exact putSel_upk 1 hb_ rfl rfl rfl), Q_BK470, Q_HB, Q_HO477, fun h0_ => absurd ((hoff 3 (by kernel_rfl)).symm.trans h0_) zq55, fun h0_ => absurd ((hoff 4 (by kernel_rfl)).symm.trans h0_) zq55, fun h0_ => absurd ((hoff 7 (by kernel_rfl)).symm.trans h0_) zq55, fun h0_ => absurd ((hoff 8 (by kernel_rfl)).symm.trans h0_) zq55, fun h0_ => absurd ((hoff 11 (by kernel_rfl)).symm.trans h0_) zq55, fun h0_ => absurd ((hoff 12 (by kernel_rfl)).symm.trans h0_) zq55, fun h0_ => absurd ((hoff 13 (by kernel_rfl)).symm.trans h0_) zq55⟩
   refine steps_cons ?_ ?_
   ·rintro b a w' ⟨v476, v479, v482, v485, v488, v491, v494, m13_, ha, Q_BK470, Q_HB, Q_HO477, Q_HO480, Q_HO483, Q_HO486, Q_HO489, Q_HO492, Q_HO495, Q_X13_⟩ hb_ hon hoff
    refine ⟨_, rfl, fun K hK => ?_⟩
    have e10 : a.tmps[10]? = some (.int .i64 a0_0) := by rw [ha]; exact putSel_on (e := (2, 10, .int .i64 a0_0)) 1 rfl rfl (hon 2 (by kernel_rfl)) rfl
    replace ha := zA ha
    have BK470 := zA Q_BK470
    have HB := zA Q_HB
    refine goes_ Try.func152 (by kernel_rfl) rfl #[.int .i64 a0_0] zq121 rfl rfl (by first | (simp only [List.map_toArray, List.map_cons, List.map_nil, Act.eval, Array.getD_eq_getD_getElem?, Option.getD_some, e10]; done) | (simp only [List.map_toArray, List.map_cons, List.map_nil, Act.eval, Array.getD_eq_getD_getElem?, Option.getD_some, e10]; rfl)) ?_
    with_reducible refine (spec_PutInt.calls k a0_0 t478 _ A4.out).mono ?_
    rintro e w18 ⟨v479, rfl, ho0, hb⟩
    refine ⟨_, rfl, ?_⟩
    have n0_ := zA (Kd.R_lower ho0 (below_size zq5))
    have n1_ := zA (blk_below (g := gb470) (o := .cells #[.int .i64 a0_0, .int .i64 a0_1, .int .i64 a0_2, .int .i64 a0_3, .int .i64 a0_4] 39 (0, 0)) zq20 hb)
    have n2_ := zA (below_step zq5 hb)
    have z_HO477 := fun (h0_ : b 0 = true) => (show Kd.R (Kd.int .u8) 5 w18 w.heap.size (fun _ => True) v476 y475 from by first | exact (Kd.R_elder' zq139 (Kd.R_base ho0) hb) | exact Kd.R_mono (Kd.R_elder' zq139 (Kd.R_base ho0) hb) (fun _ h_ => by first | trivial | exact h_ | exact h_.1))
    clear BK470
    clear HB
    have HO480 := n0_
    have BK470 := n1_
    have HB := n2_
    clear n0_ n1_ n2_
    (try clear hb)
    (try clear hb2)
    (try clear hk)
    (try clear hi)
    (try clear ho0)
    refine hK.out _ _ ⟨v476, v479, v482, v485, v488, v491, v494, m13_, (by rw [ha.out]; exact putSel_upk 2 hb_ rfl rfl rfl), zq20, zq5, z_HO477, fun _ => zq85, fun h0_ => absurd ((hoff 4 (by kernel_rfl)).symm.trans h0_) zq55, fun h0_ => absurd ((hoff 7 (by kernel_rfl)).symm.trans h0_) zq55, fun h0_ => absurd ((hoff 8 (by kernel_rfl)).symm.trans h0_) zq55, fun h0_ => absurd ((hoff 11 (by kernel_rfl)).symm.trans h0_) zq55, fun h0_ => absurd ((hoff 12 (by kernel_rfl)).symm.trans h0_) zq55, fun h0_ => absurd ((hoff 13 (by kernel_rfl)).symm.trans h0_) zq55⟩
   refine steps_cons ?_ ?_
   ·rintro b a w' ⟨v476, v479, v482, v485, v488, v491, v494, m13_, ha, Q_BK470, Q_HB, Q_HO477, Q_HO480, Q_HO483, Q_HO486, Q_HO489, Q_HO492, Q_HO495, Q_X13_⟩ hb_ hon hoff
    refine ⟨_, rfl, fun K hK => ?_⟩
    have e8 : a.tmps[8]? = some (v476) := by rw [ha]; exact putSel_on (e := (0, 8, v476)) 0 rfl rfl (hon 0 (by kernel_rfl)) rfl
    have e11 : a.tmps[11]? = some (v479) := by rw [ha]; exact putSel_on (e := (3, 11, v479)) 2 rfl rfl (hon 3 (by kernel_rfl)) rfl
    replace ha := zA ha
    have BK470 := zA Q_BK470
    have HB := zA Q_HB
    have HO477 := zA (Q_HO477 (hon 0 (by kernel_rfl)))
    have HO480 := zA (Q_HO480 (hon 3 (by kernel_rfl)))
    obtain ⟨Ao22, co22, eo22⟩ := Kd.R_slice HO477.out
    (first | subst eo22 | (injection eo22 with f1_ f2_ f3_; have f4_ := f1_.symm; have f5_ := f3_.symm; clear f1_ f2_ f3_; subst f4_; subst f5_))
    obtain ⟨Ao23, co23, eo23⟩ := Kd.R_slice HO480.out
    (first | subst eo23 | (injection eo23 with f1_ f2_ f3_; have f4_ := f1_.symm; have f5_ := f3_.symm; clear f1_ f2_ f3_; subst f4_; subst f5_))
    refine goes_ Try.func126 (by kernel_rfl) rfl #[.slice Ao22 y475.length co22, .int .i64 2, .slice Ao23 t478.length co23] zq121 rfl rfl (by first | (simp only [List.map_toArray, List.map_cons, List.map_nil, Act.eval, Array.getD_eq_getD_getElem?, Option.getD_some, e8, e11]; done) | (simp only [List.map_toArray, List.map_cons, List.map_nil, Act.eval, Array.getD_eq_getD_getElem?, Option.getD_some, e8, e11]; rfl)) ?_
    with_reducible refine (spec_PutTlv.calls k _ _ y475 2 _ _ t478 t481 _ ?side1 ?side2 ?side3 ?side4 A5.out).mono ?_
    (case side1 => repeat (first | exact (Kd.R_reads' HO477.out).2.2 | (with_reducible refine Kd.C_alloc ?_ _) | (with_reducible refine Kd.C_drewN ?_ _) | (with_reducible refine Kd.C_drew ?_)))
    (case side2 => exact (Kd.R_reads' HO477.out).2.1)
    (case side3 => repeat (first | exact (Kd.R_reads' HO480.out).2.2 | (with_reducible refine Kd.C_alloc ?_ _) | (with_reducible refine Kd.C_drewN ?_ _) | (with_reducible refine Kd.C_drew ?_)))
    (case side4 => exact (Kd.R_reads' HO480.out).2.1)
    rintro e w24 ⟨v482, rfl, ho0, hb⟩
    refine ⟨_, rfl, ?_⟩
    have n0_ := zA (Kd.R_elder' zq26 (Kd.R_base ho0) hb)
    have n1_ := zA (Kd.R_elder' zq27 (Kd.R_base ho0) hb)
    have n2_ := zA (Kd.R_lower (Kd.R_new' (Kd.R_new' ho0 (Kd.R_lt zq26)) (Kd.R_lt zq27)) (below_size zq5))
    have n3_ := zA (blk_below (g := gb470) (o := .cells #[.int .i64 a0_0, .int .i64 a0_1, .int .i64 a0_2, .int .i64 a0_3, .int .i64 a0_4] 39 (0, 0)) zq20 hb)
    have n4_ := zA (below_step zq5 hb)
    clear HO477
    clear HO480
    clear BK470
    clear HB
    have HO477 := n0_
    have HO480 := n1_
    have HO483 := n2_
    have BK470 := n3_
    have HB := n4_
    clear n0_ n1_ n2_ n3_ n4_
    (try clear hb)
    (try clear hb2)
    (try clear hk)
    (try clear hi)
    (try clear ho0)
    refine hK.out _ _ ⟨.slice Ao22 y475.length co22, .slice Ao23 t478.length co23, v482, v485, v488, v491, v494, m13_, (by rw [ha.out]; exact putSel_upk 3 hb_ rfl rfl rfl), zq20, zq5, fun _ => zq84, fun _ => zq85, fun _ => zq102, fun h0_ => absurd ((hoff 7 (by kernel_rfl)).symm.trans h0_) zq55, fun h0_ => absurd ((hoff 8 (by kernel_rfl)).symm.trans h0_) zq55, fun h0_ => absurd ((hoff 11 (by kernel_rfl)).symm.trans h0_) zq55, fun h0_ => absurd ((hoff 12 (by kernel_rfl)).symm.trans h0_) zq55, fun h0_ => absurd ((hoff 13 (by kernel_rfl)).symm.trans h0_) zq55⟩
   refine steps_cons ?_ ?_
   ·rintro b a w' ⟨v476, v479, v482, v485, v488, v491, v494, m13_, ha, Q_BK470, Q_HB, Q_HO477, Q_HO480, Q_HO483, Q_HO486, Q_HO489, Q_HO492, Q_HO495, Q_X13_⟩ hb_ hon hoff
    refine ⟨_, rfl, fun K hK => ?_⟩
    have e13 : a.tmps[13]? = some (.pointer (some ⟨gb470, 1, none⟩)) := by rw [ha]; exact (putSel_off rfl).trans rfl
    replace ha := zA ha
    have BK470 := zA Q_BK470
    have HB := zA Q_HB
    have hc0_ : w'.cell? ⟨gb470, 0, none⟩ = some (.int .i64 a0_0) := (blk_cell BK470.out 0).trans rfl
    have hc1_ : w'.cell? ⟨gb470, 1, none⟩ = some (.int .i64 a0_1) := (blk_cell BK470.out 1).trans rfl
    have hc2_ : w'.cell? ⟨gb470, 2, none⟩ = some (.int .i64 a0_2) := (blk_cell BK470.out 2).trans rfl
    have hc3_ : w'.cell? ⟨gb470, 3, none⟩ = some (.int .i64 a0_3) := (blk_cell BK470.out 3).trans rfl
    have hc4_ : w'.cell? ⟨gb470, 4, none⟩ = some (.int .i64 a0_4) := (blk_cell BK470.out 4).trans rfl
    refine value_ (w1 := w') (v := .int .i64 a0_1) zq121 rfl ?_ ?_
    ·go_simp
     (try simp only [i64_w])
     try rfl
    refine hK.out _ _ ⟨v476, v479, v482, v485, v488, v491, v494, m13_, (by rw [ha.out]; exact putSel_upk 4 hb_ rfl rfl rfl), Q_BK470, Q_HB, Q_HO477, Q_HO480, Q_HO483, fun h0_ => absurd ((hoff 7 (by kernel_rfl)).symm.trans h0_) zq55, fun h0_ => absurd ((hoff 8 (by kernel_rfl)).symm.trans h0_) zq55, fun h0_ => absurd ((hoff 11 (by kernel_rfl)).symm.trans h0_) zq55, fun h0_ => absurd ((hoff 12 (by kernel_rfl)).symm.trans h0_) zq55, fun h0_ => absurd ((hoff 13 (by kernel_rfl)).symm.trans h0_) zq55⟩
   refine steps_cons ?_ ?_
   ·rintro b a w' ⟨v476, v479, v482, v485, v488, v491, v494, m13_, ha, Q_BK470, Q_HB, Q_HO477, Q_HO480, Q_HO483, Q_HO486, Q_HO489, Q_HO492, Q_HO495, Q_X13_⟩ hb_ hon hoff
    refine ⟨_, rfl, fun K hK => ?_⟩
    have e14 : a.tmps[14]? = some (.int .i64 a0_1) := by rw [ha]; exact putSel_on (e := (6, 14, .int .i64 a0_1)) 4 rfl rfl (hon 6 (by kernel_rfl)) rfl
    replace ha := zA ha
    have BK470 := zA Q_BK470
    have HB := zA Q_HB
    have HO477 := zA (Q_HO477 (hon 0 (by kernel_rfl)))
    have HO480 := zA (Q_HO480 (hon 3 (by kernel_rfl)))
    have HO483 := zA (Q_HO483 (hon 4 (by kernel_rfl)))
    refine goes_ Try.func152 (by kernel_rfl) rfl #[.int .i64 a0_1] zq121 rfl rfl (by first | (simp only [List.map_toArray, List.map_cons, List.map_nil, Act.eval, Array.getD_eq_getD_getElem?, Option.getD_some, e14]; done) | (simp only [List.map_toArray, List.map_cons, List.map_nil, Act.eval, Array.getD_eq_getD_getElem?, Option.getD_some, e14]; rfl)) ?_
    with_reducible refine (spec_PutInt.calls k a0_1 t484 _ A6.out).mono ?_
    rintro e w25 ⟨v485, rfl, ho0, hb⟩
    refine ⟨_, rfl, ?_⟩
    have n0_ := zA (Kd.R_elder' zq26 (Kd.R_base ho0) hb)
    have n1_ := zA (Kd.R_elder' zq27 (Kd.R_base ho0) hb)
    have n2_ := zA (Kd.R_elder' zq32 (Kd.R_base ho0) hb)
    have n3_ := zA (Kd.R_lower (Kd.R_new' (Kd.R_new' (Kd.R_new' ho0 (Kd.R_lt zq26)) (Kd.R_lt zq27)) (Kd.R_lt zq32)) (below_size zq5))
    have n4_ := zA (blk_below (g := gb470) (o := .cells #[.int .i64 a0_0, .int .i64 a0_1, .int .i64 a0_2, .int .i64 a0_3, .int .i64 a0_4] 39 (0, 0)) zq20 hb)
    have n5_ := zA (below_step zq5 hb)
    clear HO477
    clear HO480
    clear HO483
    clear BK470
    clear HB
    have HO477 := n0_
    have HO480 := n1_
    have HO483 := n2_
    have HO486 := n3_
    have BK470 := n4_
    have HB := n5_
    clear n0_ n1_ n2_ n3_ n4_ n5_
    (try clear hb)
    (try clear hb2)
    (try clear hk)
    (try clear hi)
    (try clear ho0)
    refine hK.out _ _ ⟨v476, v479, v482, v485, v488, v491, v494, m13_, (by rw [ha.out]; exact putSel_upk 5 hb_ rfl rfl rfl), zq20, zq5, fun _ => zq84, fun _ => zq85, fun _ => zq102, fun _ => zq111, fun h0_ => absurd ((hoff 8 (by kernel_rfl)).symm.trans h0_) zq55, fun h0_ => absurd ((hoff 11 (by kernel_rfl)).symm.trans h0_) zq55, fun h0_ => absurd ((hoff 12 (by kernel_rfl)).symm.trans h0_) zq55, fun h0_ => absurd ((hoff 13 (by kernel_rfl)).symm.trans h0_) zq55⟩
   refine steps_cons ?_ ?_
   ·rintro b a w' ⟨v476, v479, v482, v485, v488, v491, v494, m13_, ha, Q_BK470, Q_HB, Q_HO477, Q_HO480, Q_HO483, Q_HO486, Q_HO489, Q_HO492, Q_HO495, Q_X13_⟩ hb_ hon hoff
    refine ⟨_, rfl, fun K hK => ?_⟩
    have e12 : a.tmps[12]? = some (v482) := by rw [ha]; exact putSel_on (e := (4, 12, v482)) 3 rfl rfl (hon 4 (by kernel_rfl)) rfl
    have e15 : a.tmps[15]? = some (v485) := by rw [ha]; exact putSel_on (e := (7, 15, v485)) 5 rfl rfl (hon 7 (by kernel_rfl)) rfl
    replace ha := zA ha
    have BK470 := zA Q_BK470
    have HB := zA Q_HB
    have HO477 := zA (Q_HO477 (hon 0 (by kernel_rfl)))
    have HO480 := zA (Q_HO480 (hon 3 (by kernel_rfl)))
    have HO483 := zA (Q_HO483 (hon 4 (by kernel_rfl)))
    have HO486 := zA (Q_HO486 (hon 7 (by kernel_rfl)))
    obtain ⟨Ao26, co26, eo26⟩ := Kd.R_slice HO483.out
    (first | subst eo26 | (injection eo26 with f1_ f2_ f3_; have f4_ := f1_.symm; have f5_ := f3_.symm; clear f1_ f2_ f3_; subst f4_; subst f5_))
    obtain ⟨Ao27, co27, eo27⟩ := Kd.R_slice HO486.out
    (first | subst eo27 | (injection eo27 with f1_ f2_ f3_; have f4_ := f1_.symm; have f5_ := f3_.symm; clear f1_ f2_ f3_; subst f4_; subst f5_))
    refine goes_ Try.func126 (by kernel_rfl) rfl #[.slice Ao26 t481.length co26, .int .i64 2, .slice Ao27 t484.length co27] zq121 rfl rfl (by first | (simp only [List.map_toArray, List.map_cons, List.map_nil, Act.eval, Array.getD_eq_getD_getElem?, Option.getD_some, e12, e15]; done) | (simp only [List.map_toArray, List.map_cons, List.map_nil, Act.eval, Array.getD_eq_getD_getElem?, Option.getD_some, e12, e15]; rfl)) ?_
    with_reducible refine (spec_PutTlv.calls k _ _ t481 2 _ _ t484 t487 _ ?side1 ?side2 ?side3 ?side4 A7.out).mono ?_
    (case side1 => repeat (first | exact (Kd.R_reads' HO483.out).2.2 | (with_reducible refine Kd.C_alloc ?_ _) | (with_reducible refine Kd.C_drewN ?_ _) | (with_reducible refine Kd.C_drew ?_)))
    (case side2 => exact (Kd.R_reads' HO483.out).2.1)
    (case side3 => repeat (first | exact (Kd.R_reads' HO486.out).2.2 | (with_reducible refine Kd.C_alloc ?_ _) | (with_reducible refine Kd.C_drewN ?_ _) | (with_reducible refine Kd.C_drew ?_)))
    (case side4 => exact (Kd.R_reads' HO486.out).2.1)
    rintro e w28 ⟨v488, rfl, ho0, hb⟩
    refine ⟨_, rfl, ?_⟩
    have n0_ := zA (Kd.R_elder' zq26 (Kd.R_base ho0) hb)
    have n1_ := zA (Kd.R_elder' zq27 (Kd.R_base ho0) hb)
    have n2_ := zA (Kd.R_elder' zq32 (Kd.R_base ho0) hb)
    have n3_ := zA (Kd.R_elder' zq38 (Kd.R_base ho0) hb)
    have n4_ := zA (Kd.R_lower (Kd.R_new' (Kd.R_new' (Kd.R_new' (Kd.R_new' ho0 (Kd.R_lt zq26)) (Kd.R_lt zq27)) (Kd.R_lt zq32)) (Kd.R_lt zq38)) (below_size zq5))
    have n5_ := zA (blk_below (g := gb470) (o := .cells #[.int .i64 a0_0, .int .i64 a0_1, .int .i64 a0_2, .int .i64 a0_3, .int .i64 a0_4] 39 (0, 0)) zq20 hb)
    have n6_ := zA (below_step zq5 hb)
    clear HO477
    clear HO480
    clear HO483
    clear HO486
    clear BK470
    clear HB
    have HO477 := n0_
    have HO480 := n1_
    have HO483 := n2_
    have HO486 := n3_
    have HO489 := n4_
    have BK470 := n5_
    have HB := n6_
    clear n0_ n1_ n2_ n3_ n4_ n5_ n6_
    (try clear hb)
    (try clear hb2)
    (try clear hk)
    (try clear hi)
    (try clear ho0)
    refine hK.out _ _ ⟨v476, v479, .slice Ao26 t481.length co26, .slice Ao27 t484.length co27, v488, v491, v494, m13_, (by rw [ha.out]; exact putSel_upk 6 hb_ rfl rfl rfl), zq20, zq5, fun _ => zq84, fun _ => zq85, fun _ => zq102, fun _ => zq111, fun _ => zq122, fun h0_ => absurd ((hoff 11 (by kernel_rfl)).symm.trans h0_) zq55, fun h0_ => absurd ((hoff 12 (by kernel_rfl)).symm.trans h0_) zq55, fun h0_ => absurd ((hoff 13 (by kernel_rfl)).symm.trans h0_) zq55⟩
   refine steps_cons ?_ ?_
   ·rintro b a w' ⟨v476, v479, v482, v485, v488, v491, v494, m13_, ha, Q_BK470, Q_HB, Q_HO477, Q_HO480, Q_HO483, Q_HO486, Q_HO489, Q_HO492, Q_HO495, Q_X13_⟩ hb_ hon hoff
    refine ⟨_, rfl, fun K hK => ?_⟩
    have e17 : a.tmps[17]? = some (.pointer (some ⟨gb470, 2, none⟩)) := by rw [ha]; exact (putSel_off rfl).trans rfl
    replace ha := zA ha
    have BK470 := zA Q_BK470
    have HB := zA Q_HB
    have hc0_ : w'.cell? ⟨gb470, 0, none⟩ = some (.int .i64 a0_0) := (blk_cell BK470.out 0).trans rfl
    have hc1_ : w'.cell? ⟨gb470, 1, none⟩ = some (.int .i64 a0_1) := (blk_cell BK470.out 1).trans rfl
    have hc2_ : w'.cell? ⟨gb470, 2, none⟩ = some (.int .i64 a0_2) := (blk_cell BK470.out 2).trans rfl
    have hc3_ : w'.cell? ⟨gb470, 3, none⟩ = some (.int .i64 a0_3) := (blk_cell BK470.out 3).trans rfl
    have hc4_ : w'.cell? ⟨gb470, 4, none⟩ = some (.int .i64 a0_4) := (blk_cell BK470.out 4).trans rfl
    refine value_ (w1 := w') (v := .int .i64 a0_2) zq121 rfl ?_ ?_
    ·go_simp
     (try simp only [i64_w])
     try rfl
    refine hK.out _ _ ⟨v476, v479, v482, v485, v488, v491, v494, m13_, (by rw [ha.out]; exact putSel_upk 7 hb_ rfl rfl rfl), Q_BK470, Q_HB, Q_HO477, Q_HO480, Q_HO483, Q_HO486, Q_HO489, fun h0_ => absurd ((hoff 11 (by kernel_rfl)).symm.trans h0_) zq55, fun h0_ => absurd ((hoff 12 (by kernel_rfl)).symm.trans h0_) zq55, fun h0_ => absurd ((hoff 13 (by kernel_rfl)).symm.trans h0_) zq55⟩
   refine steps_cons ?_ ?_
   ·rintro b a w' ⟨v476, v479, v482, v485, v488, v491, v494, m13_, ha, Q_BK470, Q_HB, Q_HO477, Q_HO480, Q_HO483, Q_HO486, Q_HO489, Q_HO492, Q_HO495, Q_X13_⟩ hb_ hon hoff
    refine ⟨_, rfl, fun K hK => ?_⟩
    have e18 : a.tmps[18]? = some (.int .i64 a0_2) := by rw [ha]; exact putSel_on (e := (10, 18, .int .i64 a0_2)) 7 rfl rfl (hon 10 (by kernel_rfl)) rfl
    replace ha := zA ha
    have BK470 := zA Q_BK470
    have HB := zA Q_HB
    have HO477 := zA (Q_HO477 (hon 0 (by kernel_rfl)))
    have HO480 := zA (Q_HO480 (hon 3 (by kernel_rfl)))
    have HO483 := zA (Q_HO483 (hon 4 (by kernel_rfl)))
    have HO486 := zA (Q_HO486 (hon 7 (by kernel_rfl)))
    have HO489 := zA (Q_HO489 (hon 8 (by kernel_rfl)))
    refine goes_ Try.func152 (by kernel_rfl) rfl #[.int .i64 a0_2] zq121 rfl rfl (by first | (simp only [List.map_toArray, List.map_cons, List.map_nil, Act.eval, Array.getD_eq_getD_getElem?, Option.getD_some, e18]; done) | (simp only [List.map_toArray, List.map_cons, List.map_nil, Act.eval, Array.getD_eq_getD_getElem?, Option.getD_some, e18]; rfl)) ?_
    with_reducible refine (spec_PutInt.calls k a0_2 t490 _ A8.out).mono ?_
    rintro e w29 ⟨v491, rfl, ho0, hb⟩
    refine ⟨_, rfl, ?_⟩
    have n0_ := zA (Kd.R_elder' zq26 (Kd.R_base ho0) hb)
    have n1_ := zA (Kd.R_elder' zq27 (Kd.R_base ho0) hb)
    have n2_ := zA (Kd.R_elder' zq32 (Kd.R_base ho0) hb)
    have n3_ := zA (Kd.R_elder' zq38 (Kd.R_base ho0) hb)
    have n4_ := zA (Kd.R_elder' zq50 (Kd.R_base ho0) hb)
    have n5_ := zA (Kd.R_lower (Kd.R_new' (Kd.R_new' (Kd.R_new' (Kd.R_new' (Kd.R_new' ho0 (Kd.R_lt zq26)) (Kd.R_lt zq27)) (Kd.R_lt zq32)) (Kd.R_lt zq38)) (Kd.R_lt zq50)) (below_size zq5))
    have n6_ := zA (blk_below (g := gb470) (o := .cells #[.int .i64 a0_0, .int .i64 a0_1, .int .i64 a0_2, .int .i64 a0_3, .int .i64 a0_4] 39 (0, 0)) zq20 hb)
    have n7_ := zA (below_step zq5 hb)
    clear HO477
    clear HO480
    clear HO483
    clear HO486
    clear HO489
    clear BK470
    clear HB
    have HO477 := n0_
    have HO480 := n1_
    have HO483 := n2_
    have HO486 := n3_
    have HO489 := n4_
    have HO492 := n5_
    have BK470 := n6_
    have HB := n7_
    clear n0_ n1_ n2_ n3_ n4_ n5_ n6_ n7_
    (try clear hb)
    (try clear hb2)
    (try clear hk)
    (try clear hi)
    (try clear ho0)
    refine hK.out _ _ ⟨v476, v479, v482, v485, v488, v491, v494, m13_, (by rw [ha.out]; exact putSel_upk 8 hb_ rfl rfl rfl), zq20, zq5, fun _ => zq84, fun _ => zq85, fun _ => zq102, fun _ => zq111, fun _ => zq122, fun _ => zq136, fun h0_ => absurd ((hoff 12 (by kernel_rfl)).symm.trans h0_) zq55, fun h0_ => absurd ((hoff 13 (by kernel_rfl)).symm.trans h0_) zq55⟩
   refine steps_cons ?_ ?_
   ·rintro b a w' ⟨v476, v479, v482, v485, v488, v491, v494, m13_, ha, Q_BK470, Q_HB, Q_HO477, Q_HO480, Q_HO483, Q_HO486, Q_HO489, Q_HO492, Q_HO495, Q_X13_⟩ hb_ hon hoff
    refine ⟨_, rfl, fun K hK => ?_⟩
    have e16 : a.tmps[16]? = some (v488) := by rw [ha]; exact putSel_on (e := (8, 16, v488)) 6 rfl rfl (hon 8 (by kernel_rfl)) rfl
    have e19 : a.tmps[19]? = some (v491) := by rw [ha]; exact putSel_on (e := (11, 19, v491)) 8 rfl rfl (hon 11 (by kernel_rfl)) rfl
    replace ha := zA ha
    have BK470 := zA Q_BK470
    have HB := zA Q_HB
    have HO477 := zA (Q_HO477 (hon 0 (by kernel_rfl)))
    have HO480 := zA (Q_HO480 (hon 3 (by kernel_rfl)))
    have HO483 := zA (Q_HO483 (hon 4 (by kernel_rfl)))
    have HO486 := zA (Q_HO486 (hon 7 (by kernel_rfl)))
    have HO489 := zA (Q_HO489 (hon 8 (by kernel_rfl)))
    have HO492 := zA (Q_HO492 (hon 11 (by kernel_rfl)))
    obtain ⟨Ao30, co30, eo30⟩ := Kd.R_slice HO489.out
    (first | subst eo30 | (injection eo30 with f1_ f2_ f3_; have f4_ := f1_.symm; have f5_ := f3_.symm; clear f1_ f2_ f3_; subst f4_; subst f5_))
    obtain ⟨Ao31, co31, eo31⟩ := Kd.R_slice HO492.out
    (first | subst eo31 | (injection eo31 with f1_ f2_ f3_; have f4_ := f1_.symm; have f5_ := f3_.symm; clear f1_ f2_ f3_; subst f4_; subst f5_))
    refine goes_ Try.func126 (by kernel_rfl) rfl #[.slice Ao30 t487.length co30, .int .i64 2, .slice Ao31 t490.length co31] zq121 rfl rfl (by first | (simp only [List.map_toArray, List.map_cons, List.map_nil, Act.eval, Array.getD_eq_getD_getElem?, Option.getD_some, e16, e19]; done) | (simp only [List.map_toArray, List.map_cons, List.map_nil, Act.eval, Array.getD_eq_getD_getElem?, Option.getD_some, e16, e19]; rfl)) ?_
    with_reducible refine (spec_PutTlv.calls k _ _ t487 2 _ _ t490 t493 _ ?side1 ?side2 ?side3 ?side4 A9.out).mono ?_
    (case side1 => repeat (first | exact (Kd.R_reads' HO489.out).2.2 | (with_reducible refine Kd.C_alloc ?_ _) | (with_reducible refine Kd.C_drewN ?_ _) | (with_reducible refine Kd.C_drew ?_)))
    (case side2 => exact (Kd.R_reads' HO489.out).2.1)
    (case side3 => repeat (first | exact (Kd.R_reads' HO492.out).2.2 | (with_reducible refine Kd.C_alloc ?_ _) | (with_reducible refine Kd.C_drewN ?_ _) | (with_reducible refine Kd.C_drew ?_)))
    (case side4 => exact (Kd.R_reads' HO492.out).2.1)
    rintro e w32 ⟨v494, rfl, ho0, hb⟩
    refine ⟨_, rfl, ?_⟩
    have n0_ := zA (Kd.R_elder' zq26 (Kd.R_base ho0) hb)
    have n1_ := zA (Kd.R_elder' zq27 (Kd.R_base ho0) hb)
    have n2_ := zA (Kd.R_elder' zq32 (Kd.R_base ho0) hb)
    have n3_ := zA (Kd.R_elder' zq38 (Kd.R_base ho0) hb)
    have n4_ := zA (Kd.R_elder' zq50 (Kd.R_base ho0) hb)
    have n5_ := zA (Kd.R_elder' zq62 (Kd.R_base ho0) hb)
    have n6_ := zA (Kd.R_lower (Kd.R_new' (Kd.R_new' (Kd.R_new' (Kd.R_new' (Kd.R_new' (Kd.R_new' ho0 (Kd.R_lt zq26)) (Kd.R_lt zq27)) (Kd.R_lt zq32)) (Kd.R_lt zq38)) (Kd.R_lt zq50)) (Kd.R_lt zq62)) (below_size zq5))
    have n7_ := zA (blk_below (g := gb470) (o := .cells #[.int .i64 a0_0, .int .i64 a0_1, .int .i64 a0_2, .int .i64 a0_3, .int .i64 a0_4] 39 (0, 0)) zq20 hb)
    have n8_ := zA (below_step zq5 hb)
    clear HO477
    clear HO480
    clear HO483
    clear HO486
    clear HO489
    clear HO492
    clear BK470
    clear HB
    have HO477 := n0_
    have HO480 := n1_
    have HO483 := n2_
    have HO486 := n3_
    have HO489 := n4_
    have HO492 := n5_
    have HO495 := n6_
    have BK470 := n7_
    have HB := n8_
    clear n0_ n1_ n2_ n3_ n4_ n5_ n6_ n7_ n8_
    (try clear hb)
    (try clear hb2)
    (try clear hk)
    (try clear hi)
    (try clear ho0)
    refine hK.out _ _ ⟨v476, v479, v482, v485, .slice Ao30 t487.length co30, .slice Ao31 t490.length co31, v494, m13_, (by rw [ha.out]; exact putSel_upk 9 hb_ rfl rfl rfl), zq20, zq5, fun _ => zq84, fun _ => zq85, fun _ => zq102, fun _ => zq111, fun _ => zq122, fun _ => zq136, fun _ => (by (with_reducible repeat (first | apply Kd.R_alloc | apply Kd.R_drewN | apply Kd.R_drew)); exact Kd.R_mono HO495.out (fun _ _ => trivial)), fun h0_ => absurd ((hoff 13 (by kernel_rfl)).symm.trans h0_) zq55⟩
   refine steps_cons ?_ ?_
   ·rintro b a w' ⟨v476, v479, v482, v485, v488, v491, v494, m13_, ha, Q_BK470, Q_HB, Q_HO477, Q_HO480, Q_HO483, Q_HO486, Q_HO489, Q_HO492, Q_HO495, Q_X13_⟩ hb_ hon hoff
    refine ⟨_, rfl, fun K hK => ?_⟩
    have e20 : a.tmps[20]? = some (v494) := by rw [ha]; exact putSel_on (e := (12, 20, v494)) 9 rfl rfl (hon 12 (by kernel_rfl)) rfl
    replace ha := zA ha
    have BK470 := zA Q_BK470
    have HB := zA Q_HB
    have HO477 := zA (Q_HO477 (hon 0 (by kernel_rfl)))
    have HO480 := zA (Q_HO480 (hon 3 (by kernel_rfl)))
    have HO483 := zA (Q_HO483 (hon 4 (by kernel_rfl)))
    have HO486 := zA (Q_HO486 (hon 7 (by kernel_rfl)))
    have HO489 := zA (Q_HO489 (hon 8 (by kernel_rfl)))
    have HO492 := zA (Q_HO492 (hon 11 (by kernel_rfl)))
    have HO495 := zA (Q_HO495 (hon 12 (by kernel_rfl)))
    refine value_ (w1 := w') (v := v494) zq121 rfl ?_ ?_
    ·go_simp
     (try simp only [i64_w])
     try rfl
    refine hK.out _ _ ⟨v476, v479, v482, v485, v488, v491, v494, (v494), (by rw [ha.out]; exact putSel_upk 10 hb_ rfl rfl rfl), Q_BK470, Q_HB, Q_HO477, Q_HO480, Q_HO483, Q_HO486, Q_HO489, Q_HO492, Q_HO495, fun _ => rfl⟩
   exact steps_nil
  rintro b a w32 hall ⟨v476, v479, v482, v485, v488, v491, v494, m13_, ha, Q_BK470, Q_HB, Q_HO477, Q_HO480, Q_HO483, Q_HO486, Q_HO489, Q_HO492, Q_HO495, Q_X13_⟩
  clear BK470 HB
  have hb0_ := hall 0 (by kernel_rfl)
  have hb2_ := hall 2 (by kernel_rfl)
  have hb3_ := hall 3 (by kernel_rfl)
  have hb4_ := hall 4 (by kernel_rfl)
  have hb6_ := hall 6 (by kernel_rfl)
  have hb7_ := hall 7 (by kernel_rfl)
  have hb8_ := hall 8 (by kernel_rfl)
  have hb10_ := hall 10 (by kernel_rfl)
  have hb11_ := hall 11 (by kernel_rfl)
  have hb12_ := hall 12 (by kernel_rfl)
  have hb13_ := hall 13 (by kernel_rfl)
  subst ha
  obtain rfl := Q_X13_ hb13_
  simp only [putSel, hb0_, hb2_, hb3_, hb4_, hb6_, hb7_, hb8_, hb10_, hb11_, hb12_, hb13_, if_true, Act.put, List.setIfInBounds_toArray, List.set_cons_zero, List.set_cons_succ]
  have BK470 := zA Q_BK470
  clear Q_BK470
  have HB := zA Q_HB
  clear Q_HB
  have HO477 := zA (Q_HO477 hb0_)
  clear Q_HO477
  have HO480 := zA (Q_HO480 hb3_)
  clear Q_HO480
  have HO483 := zA (Q_HO483 hb4_)
  clear Q_HO483
  have HO486 := zA (Q_HO486 hb7_)
  clear Q_HO486
  have HO489 := zA (Q_HO489 hb8_)
  clear Q_HO489
  have HO492 := zA (Q_HO492 hb11_)
  clear Q_HO492
  have HO495 := zA (Q_HO495 hb12_)
  clear Q_HO495
  clear hall hb0_ hb2_ hb3_ hb4_ hb6_ hb7_ hb8_ hb10_ hb11_ hb12_ hb13_
  try go_wp2
  have n0_ := zA (Kd.R_drew HO477.out)
  have n1_ := zA (Kd.R_drew HO480.out)
  have n2_ := zA (Kd.R_drew HO483.out)
  have n3_ := zA (Kd.R_drew HO486.out)
  have n4_ := zA (Kd.R_drew HO489.out)
  have n5_ := zA (Kd.R_drew HO492.out)
  have n6_ := zA (Kd.R_drew HO495.out)
  have n7_ := zA (blk_drew BK470.out)
  have n8_ := zA (below_drew1 HB.out)
  clear HO477
  clear HO480
  clear HO483
  clear HO486
  clear HO489
  clear HO492
  clear HO495
  clear BK470
  clear HB
  have HO477 := n0_
  have HO480 := n1_
  have HO483 := n2_
  have HO486 := n3_
  have HO489 := n4_
  have HO492 := n5_
  have HO495 := n6_
  have BK470 := n7_
  have HB := n8_
  clear n0_ n1_ n2_ n3_ n4_ n5_ n6_ n7_ n8_
  refine start_ (n := 10) (S := fun w' => w'.cell? ⟨gb470, 0, none⟩ = some (.int .i64 a0_0) ∧ w'.cell? ⟨gb470, 1, none⟩ = some (.int .i64 a0_1) ∧ w'.cell? ⟨gb470, 2, none⟩ = some (.int .i64 a0_2) ∧ w'.cell? ⟨gb470, 3, none⟩ = some (.int .i64 a0_3) ∧ w'.cell? ⟨gb470, 4, none⟩ = some (.int .i64 a0_4)) (ds := []) #[false, false, false, false, false, false, false, false, false, false] (by kernel_rfl) rfl rfl ⟨(blk_cell BK470.out 0).trans rfl, (blk_cell BK470.out 1).trans rfl, (blk_cell BK470.out 2).trans rfl, (blk_cell BK470.out 3).trans rfl, (blk_cell BK470.out 4).trans rfl⟩ (fun hHeld => ?_); refine with_tabW spec_PutVec.tab4 spec_PutVec.bits4 (fun HT_ HW_ => ?_)
  generalize w32.drew = w33 at HO477 HO480 HO483 HO486 HO489 HO492 HO495 BK470 HB hHeld ⊢
  refine pure_ (i := 0) (N := some 21) (v := ?_) (a' := ?_) #[true, false, false, false, false, false, false, false, false, false] rfl rfl (any_of HT_.out (by kernel_rfl)) (fun _ _ _ h => h) (Or.inl ⟨by rfl, ?_⟩) ?_ ?_
  rotate_left
  ·intro w'
   go_simp
   with_reducible rfl
  rotate_left
  ·simp only [Act.put, List.setIfInBounds_toArray, List.set_cons_zero, List.set_cons_succ, i64_w, i32_w]
   rfl
  refine pure_ (i := 1) (N := some 22) (v := ?_) (a' := ?_) #[true, true, false, false, false, false, false, false, false, false] rfl rfl (any_of HT_.out (by kernel_rfl)) (fun _ _ _ h => h) (Or.inl ⟨by rfl, ?_⟩) ?_ ?_
  rotate_left
  ·intro w'
   go_simp
   with_reducible rfl
  rotate_left
  ·simp only [Act.put, List.setIfInBounds_toArray, List.set_cons_zero, List.set_cons_succ, i64_w, i32_w]
   rfl
  refine pure_ (i := 5) (N := some 26) (v := ?_) (a' := ?_) #[true, true, false, false, false, true, false, false, false, false] rfl rfl (any_of HT_.out (by kernel_rfl)) (fun _ _ _ h => h) (Or.inl ⟨by rfl, ?_⟩) ?_ ?_
  rotate_left
  ·intro w'
   go_simp
   with_reducible rfl
  rotate_left
  ·simp only [Act.put, List.setIfInBounds_toArray, List.set_cons_zero, List.set_cons_succ, i64_w, i32_w]
   rfl
  refine take_ (i := 2) (N := some 23) (v := ?_) (a' := ?_) #[true, true, true, false, false, true, false, false, false, false] rfl rfl (take_ofW HT_.out HW_.out (by kernel_rfl)) (fun _ _ _ h => h) (Or.inl ⟨by rfl, ?_⟩) hHeld ?_ ?_
  rotate_left
  ·rintro w' ⟨s0, s1, s2, s3, s4⟩
   go_simp
   with_reducible rfl
  rotate_left
  ·simp only [Act.put, List.setIfInBounds_toArray, List.set_cons_zero, List.set_cons_succ, i64_w, i32_w]
   rfl
  refine take_ (i := 6) (N := some 27) (v := ?_) (a' := ?_) #[true, true, true, false, false, true, true, false, false, false] rfl rfl (take_ofW HT_.out HW_.out (by kernel_rfl)) (fun _ _ _ h => h) (Or.inl ⟨by rfl, ?_⟩) hHeld ?_ ?_
  rotate_left
  ·rintro w' ⟨s0, s1, s2, s3, s4⟩
   go_simp
   with_reducible rfl
  rotate_left
  ·simp only [Act.put, List.setIfInBounds_toArray, List.set_cons_zero, List.set_cons_succ, i64_w, i32_w]
   rfl
  refine one_ (i := 3) (N := some 24) #[true, true, true, true, false, true, true, false, false, false] rfl rfl (one_of HT_.out (by kernel_rfl)) zq55 (fun K hK => ?_)
  refine goes_ Try.func152 (by kernel_rfl) rfl #[.int .i64 a0_3] zq121 rfl rfl zq1 ?_
  with_reducible refine (spec_PutInt.calls k a0_3 t496 _ A10.out).mono ?_
  rintro e w34 ⟨v497, rfl, ho0, hb⟩
  refine ⟨_, rfl, ?_⟩
  have n0_ := zA (Kd.R_elder' zq26 (Kd.R_base ho0) hb)
  have n1_ := zA (Kd.R_elder' zq27 (Kd.R_base ho0) hb)
  have n2_ := zA (Kd.R_elder' zq32 (Kd.R_base ho0) hb)
  have n3_ := zA (Kd.R_elder' zq38 (Kd.R_base ho0) hb)
  have n4_ := zA (Kd.R_elder' zq50 (Kd.R_base ho0) hb)
  have n5_ := zA (Kd.R_elder' zq62 (Kd.R_base ho0) hb)
  have n6_ := zA (Kd.R_elder' zq81 (Kd.R_base ho0) hb)
  have n7_ := zA (Kd.R_lower (Kd.R_new' (Kd.R_new' (Kd.R_new' (Kd.R_new' (Kd.R_new' (Kd.R_new' (Kd.R_new' ho0 (Kd.R_lt zq26)) (Kd.R_lt zq27)) (Kd.R_lt zq32)) (Kd.R_lt zq38)) (Kd.R_lt zq50)) (Kd.R_lt zq62)) (Kd.R_lt zq81)) (below_size zq5))
  have n8_ := zA (blk_below (g := gb470) (o := .cells #[.int .i64 a0_0, .int .i64 a0_1, .int .i64 a0_2, .int .i64 a0_3, .int .i64 a0_4] 39 (0, 0)) zq20 hb)
  have n9_ := zA (below_step zq5 hb)
  clear HO477
  clear HO480
  clear HO483
  clear HO486
  clear HO489
  clear HO492
  clear HO495
  clear BK470
  clear HB
  have HO477 := n0_
  have HO480 := n1_
  have HO483 := n2_
  have HO486 := n3_
  have HO489 := n4_
  have HO492 := n5_
  have HO495 := n6_
  have HO498 := n7_
  have BK470 := n8_
  have HB := n9_
  clear n0_ n1_ n2_ n3_ n4_ n5_ n6_ n7_ n8_ n9_
  (try clear hb)
  (try clear hb2)
  (try clear hk)
  (try clear hi)
  (try clear ho0)
  obtain ⟨Ao35, co35, eo35⟩ := Kd.R_slice HO495.out
  (first | subst eo35 | (injection eo35 with f1_ f2_ f3_; have f4_ := f1_.symm; have f5_ := f3_.symm; clear f1_ f2_ f3_; subst f4_; subst f5_))
  obtain ⟨Ao36, co36, eo36⟩ := Kd.R_slice HO498.out
  (first | subst eo36 | (injection eo36 with f1_ f2_ f3_; have f4_ := f1_.symm; have f5_ := f3_.symm; clear f1_ f2_ f3_; subst f4_; subst f5_))
  refine hK.out _ _ ⟨(blk_cell BK470.out 0).trans rfl, (blk_cell BK470.out 1).trans rfl, (blk_cell BK470.out 2).trans rfl, (blk_cell BK470.out 3).trans rfl, (blk_cell BK470.out 4).trans rfl⟩ (fun hHeld => ?_)
  clear hK K
  refine norm_ (a' := ?_) ?_ ?_
  rotate_left
  ·show Act.put _ (some 24) _ = _
   simp only [Act.put, List.setIfInBounds_toArray, List.set_cons_zero, List.set_cons_succ, i64_w, i32_w]
   rfl
  refine one_ (i := 4) (N := some 25) #[true, true, true, true, true, true, true, false, false, false] rfl rfl (one_of HT_.out (by kernel_rfl)) zq55 (fun K hK => ?_)
  refine goes_ Try.func126 (by kernel_rfl) rfl #[.slice Ao35 t493.length co35, .int .i64 2, .slice Ao36 t496.length co36] zq121 rfl rfl zq1 ?_
  with_reducible refine (spec_PutTlv.calls k _ _ t493 2 _ _ t496 t499 _ ?side1 ?side2 ?side3 ?side4 A11.out).mono ?_
  (case side1 => repeat (first | exact (Kd.R_reads' HO495.out).2.2 | (with_reducible refine Kd.C_alloc ?_ _) | (with_reducible refine Kd.C_drewN ?_ _) | (with_reducible refine Kd.C_drew ?_)))
  (case side2 => exact (Kd.R_reads' HO495.out).2.1)
  (case side3 => repeat (first | exact (Kd.R_reads' HO498.out).2.2 | (with_reducible refine Kd.C_alloc ?_ _) | (with_reducible refine Kd.C_drewN ?_ _) | (with_reducible refine Kd.C_drew ?_)))
  (case side4 => exact (Kd.R_reads' HO498.out).2.1)
  rintro e w37 ⟨v500, rfl, ho0, hb⟩
  refine ⟨_, rfl, ?_⟩
  have n0_ := zA (Kd.R_elder' zq26 (Kd.R_base ho0) hb)
  have n1_ := zA (Kd.R_elder' zq27 (Kd.R_base ho0) hb)
  have n2_ := zA (Kd.R_elder' zq32 (Kd.R_base ho0) hb)
  have n3_ := zA (Kd.R_elder' zq38 (Kd.R_base ho0) hb)
  have n4_ := zA (Kd.R_elder' zq50 (Kd.R_base ho0) hb)
  have n5_ := zA (Kd.R_elder' zq62 (Kd.R_base ho0) hb)
  have n6_ := zA (Kd.R_elder' zq81 (Kd.R_base ho0) hb)
  have n7_ := zA (Kd.R_elder' zq106 (Kd.R_base ho0) hb)
  have n8_ := zA (Kd.R_lower (Kd.R_new' (Kd.R_new' (Kd.R_new' (Kd.R_new' (Kd.R_new' (Kd.R_new' (Kd.R_new' (Kd.R_new' ho0 (Kd.R_lt zq26)) (Kd.R_lt zq27)) (Kd.R_lt zq32)) (Kd.R_lt zq38)) (Kd.R_lt zq50)) (Kd.R_lt zq62)) (Kd.R_lt zq81)) (Kd.R_lt zq106)) (below_size zq5))
  have n9_ := zA (blk_below (g := gb470) (o := .cells #[.int .i64 a0_0, .int .i64 a0_1, .int .i64 a0_2, .int .i64 a0_3, .int .i64 a0_4] 39 (0, 0)) zq20 hb)
  have n10_ := zA (below_step zq5 hb)
  clear HO477
  clear HO480
  clear HO483
  clear HO486
  clear HO489
  clear HO492
  clear HO495
  clear HO498
  clear BK470
  clear HB
  have HO477 := n0_
  have HO480 := n1_
  have HO483 := n2_
  have HO486 := n3_
  have HO489 := n4_
  have HO492 := n5_
  have HO495 := n6_
  have HO498 := n7_
  have HO501 := n8_
  have BK470 := n9_
  have HB := n10_
  clear n0_ n1_ n2_ n3_ n4_ n5_ n6_ n7_ n8_ n9_ n10_
  (try clear hb)
  (try clear hb2)
  (try clear hk)
  (try clear hi)
  (try clear ho0)
  refine hK.out _ _ ⟨(blk_cell BK470.out 0).trans rfl, (blk_cell BK470.out 1).trans rfl, (blk_cell BK470.out 2).trans rfl, (blk_cell BK470.out 3).trans rfl, (blk_cell BK470.out 4).trans rfl⟩ (fun hHeld => ?_)
  clear hK K
  refine norm_ (a' := ?_) ?_ ?_
  rotate_left
  ·show Act.put _ (some 25) _ = _
   simp only [Act.put, List.setIfInBounds_toArray, List.set_cons_zero, List.set_cons_succ, i64_w, i32_w]
   rfl
  refine one_ (i := 7) (N := some 28) #[true, true, true, true, true, true, true, true, false, false] rfl rfl (one_of HT_.out (by kernel_rfl)) zq55 (fun K hK => ?_)
  refine goes_ Try.func152 (by kernel_rfl) rfl #[.int .i64 a0_4] zq121 rfl rfl zq1 ?_
  with_reducible refine (spec_PutInt.calls k a0_4 t502 _ A12.out).mono ?_
  rintro e w38 ⟨v503, rfl, ho0, hb⟩
  refine ⟨_, rfl, ?_⟩
  have n0_ := zA (Kd.R_elder' zq26 (Kd.R_base ho0) hb)
  have n1_ := zA (Kd.R_elder' zq27 (Kd.R_base ho0) hb)
  have n2_ := zA (Kd.R_elder' zq32 (Kd.R_base ho0) hb)
  have n3_ := zA (Kd.R_elder' zq38 (Kd.R_base ho0) hb)
  have n4_ := zA (Kd.R_elder' zq50 (Kd.R_base ho0) hb)
  have n5_ := zA (Kd.R_elder' zq62 (Kd.R_base ho0) hb)
  have n6_ := zA (Kd.R_elder' zq81 (Kd.R_base ho0) hb)
  have n7_ := zA (Kd.R_elder' zq106 (Kd.R_base ho0) hb)
  have n8_ := zA (Kd.R_elder' zq119 (Kd.R_base ho0) hb)
  have n9_ := zA (Kd.R_lower (Kd.R_new' (Kd.R_new' (Kd.R_new' (Kd.R_new' (Kd.R_new' (Kd.R_new' (Kd.R_new' (Kd.R_new' (Kd.R_new' ho0 (Kd.R_lt zq26)) (Kd.R_lt zq27)) (Kd.R_lt zq32)) (Kd.R_lt zq38)) (Kd.R_lt zq50)) (Kd.R_lt zq62)) (Kd.R_lt zq81)) (Kd.R_lt zq106)) (Kd.R_lt zq119)) (below_size zq5))
  have n10_ := zA (blk_below (g := gb470) (o := .cells #[.int .i64 a0_0, .int .i64 a0_1, .int .i64 a0_2, .int .i64 a0_3, .int .i64 a0_4] 39 (0, 0)) zq20 hb)
  have n11_ := zA (below_step zq5 hb)
  clear HO477
  clear HO480
  clear HO483
  clear HO486
  clear HO489
  clear HO492
  clear HO495
  clear HO498
  clear HO501
  clear BK470
  clear HB
  have HO477 := n0_
  have HO480 := n1_
  have HO483 := n2_
  have HO486 := n3_
  have HO489 := n4_
  have HO492 := n5_
  have HO495 := n6_
  have HO498 := n7_
  have HO501 := n8_
  have HO504 := n9_
  have BK470 := n10_
  have HB := n11_
  clear n0_ n1_ n2_ n3_ n4_ n5_ n6_ n7_ n8_ n9_ n10_ n11_
  (try clear hb)
  (try clear hb2)
  (try clear hk)
  (try clear hi)
  (try clear ho0)
  obtain ⟨Ao39, co39, eo39⟩ := Kd.R_slice HO501.out
  (first | subst eo39 | (injection eo39 with f1_ f2_ f3_; have f4_ := f1_.symm; have f5_ := f3_.symm; clear f1_ f2_ f3_; subst f4_; subst f5_))
  obtain ⟨Ao40, co40, eo40⟩ := Kd.R_slice HO504.out
  (first | subst eo40 | (injection eo40 with f1_ f2_ f3_; have f4_ := f1_.symm; have f5_ := f3_.symm; clear f1_ f2_ f3_; subst f4_; subst f5_))
  refine hK.out _ _ ⟨(blk_cell BK470.out 0).trans rfl, (blk_cell BK470.out 1).trans rfl, (blk_cell BK470.out 2).trans rfl, (blk_cell BK470.out 3).trans rfl, (blk_cell BK470.out 4).trans rfl⟩ (fun hHeld => ?_)
  clear hK K
  refine norm_ (a' := ?_) ?_ ?_
  rotate_left
  ·show Act.put _ (some 28) _ = _
   simp only [Act.put, List.setIfInBounds_toArray, List.set_cons_zero, List.set_cons_succ, i64_w, i32_w]
   rfl
  refine one_ (i := 8) (N := some 29) #[true, true, true, true, true, true, true, true, true, false] rfl rfl (one_of HT_.out (by kernel_rfl)) zq55 (fun K hK => ?_)
  refine goes_ Try.func126 (by kernel_rfl) rfl #[.slice Ao39 t499.length co39, .int .i64 2, .slice Ao40 t502.length co40] zq121 rfl rfl zq1 ?_
  with_reducible refine (spec_PutTlv.calls k _ _ t499 2 _ _ t502 t505 _ ?side1 ?side2 ?side3 ?side4 A13.out).mono ?_
  (case side1 => repeat (first | exact (Kd.R_reads' HO501.out).2.2 | (with_reducible refine Kd.C_alloc ?_ _) | (with_reducible refine Kd.C_drewN ?_ _) | (with_reducible refine Kd.C_drew ?_)))
  (case side2 => exact (Kd.R_reads' HO501.out).2.1)
  (case side3 => repeat (first | exact (Kd.R_reads' HO504.out).2.2 | (with_reducible refine Kd.C_alloc ?_ _) | (with_reducible refine Kd.C_drewN ?_ _) | (with_reducible refine Kd.C_drew ?_)))
  (case side4 => exact (Kd.R_reads' HO504.out).2.1)
  rintro e w41 ⟨v506, rfl, ho0, hb⟩
  refine ⟨_, rfl, ?_⟩
  have n0_ := zA (Kd.R_elder' zq26 (Kd.R_base ho0) hb)
  have n1_ := zA (Kd.R_elder' zq27 (Kd.R_base ho0) hb)
  have n2_ := zA (Kd.R_elder' zq32 (Kd.R_base ho0) hb)
  have n3_ := zA (Kd.R_elder' zq38 (Kd.R_base ho0) hb)
  have n4_ := zA (Kd.R_elder' zq50 (Kd.R_base ho0) hb)
  have n5_ := zA (Kd.R_elder' zq62 (Kd.R_base ho0) hb)
  have n6_ := zA (Kd.R_elder' zq81 (Kd.R_base ho0) hb)
  have n7_ := zA (Kd.R_elder' zq106 (Kd.R_base ho0) hb)
  have n8_ := zA (Kd.R_elder' zq119 (Kd.R_base ho0) hb)
  have n9_ := zA (Kd.R_elder' zq146 (Kd.R_base ho0) hb)
  have n10_ := zA (Kd.R_lower (Kd.R_new' (Kd.R_new' (Kd.R_new' (Kd.R_new' (Kd.R_new' (Kd.R_new' (Kd.R_new' (Kd.R_new' (Kd.R_new' (Kd.R_new' ho0 (Kd.R_lt zq26)) (Kd.R_lt zq27)) (Kd.R_lt zq32)) (Kd.R_lt zq38)) (Kd.R_lt zq50)) (Kd.R_lt zq62)) (Kd.R_lt zq81)) (Kd.R_lt zq106)) (Kd.R_lt zq119)) (Kd.R_lt zq146)) (below_size zq5))
  have n11_ := zA (blk_below (g := gb470) (o := .cells #[.int .i64 a0_0, .int .i64 a0_1, .int .i64 a0_2, .int .i64 a0_3, .int .i64 a0_4] 39 (0, 0)) zq20 hb)
  have n12_ := zA (below_step zq5 hb)
  clear HO477
  clear HO480
  clear HO483
  clear HO486
  clear HO489
  clear HO492
  clear HO495
  clear HO498
  clear HO501
  clear HO504
  clear BK470
  clear HB
  have HO477 := n0_
  have HO480 := n1_
  have HO483 := n2_
  have HO486 := n3_
  have HO489 := n4_
  have HO492 := n5_
  have HO495 := n6_
  have HO498 := n7_
  have HO501 := n8_
  have HO504 := n9_
  have HO507 := n10_
  have BK470 := n11_
  have HB := n12_
  clear n0_ n1_ n2_ n3_ n4_ n5_ n6_ n7_ n8_ n9_ n10_ n11_ n12_
  (try clear hb)
  (try clear hb2)
  (try clear hk)
  (try clear hi)
  (try clear ho0)
  refine hK.out _ _ ⟨(blk_cell BK470.out 0).trans rfl, (blk_cell BK470.out 1).trans rfl, (blk_cell BK470.out 2).trans rfl, (blk_cell BK470.out 3).trans rfl, (blk_cell BK470.out 4).trans rfl⟩ (fun hHeld => ?_)
  clear hK K
  refine norm_ (a' := ?_) ?_ ?_
  rotate_left
  ·show Act.put _ (some 29) _ = _
   simp only [Act.put, List.setIfInBounds_toArray, List.set_cons_zero, List.set_cons_succ, i64_w, i32_w]
   rfl
  refine pure_ (i := 9) (N := some 2) (v := ?_) (a' := ?_) #[true, true, true, true, true, true, true, true, true, true] rfl rfl (any_of HT_.out (by kernel_rfl)) (fun _ _ _ h => h) (Or.inl ⟨by rfl, ?_⟩) ?_ ?_
  rotate_left
  ·intro w'
   go_simp
   with_reducible rfl
  rotate_left
  ·simp only [Act.put, List.setIfInBounds_toArray, List.set_cons_zero, List.set_cons_succ, i64_w, i32_w]
   rfl
  refine done_ (done_of HT_.out (by kernel_rfl)) ?_
  try go_wp2
  go_ret
  exact ⟨_, by first | rfl | (simp [errW_none, errW_some] <;> rfl) | (simp [*, errW_none, errW_some] <;> rfl), by (with_reducible repeat (first | apply Kd.R_alloc | apply Kd.R_drewN | apply Kd.R_drew)); exact Kd.R_mono HO507.out (fun _ hk => trivial), by repeat (first | (with_reducible first | exact HB.out | apply below_alloc | apply pw_below_drewN | apply below_drew1 | refine below_set ?_ GE470.out) | exact HB.out)⟩
 ·replace c3 := Bool.eq_false_iff.mpr c3
  subst c3
  rw [if_neg zF] at H
  obtain ⟨y472, hy472⟩ : ∃ y_ : List Int, y_ = (([] : List Int)) := ⟨_, rfl⟩
  replace H : (some y472) = some r := by first | (rw [hy472]; with_reducible exact H) | (have H2_ := (Option.bind_some _ _).symm.trans H; rw [hy472]; with_reducible exact H2_) | (have H2_ := (Option.bind_some _ _).symm.trans H; with_reducible exact H2_) | with_reducible exact H | (rw [hy472]; exact H) | exact H
  have Ny472 := zA hy472
  clear hy472
  obtain rfl := Option.some.inj H
  go_enter Try.func148, Try.ntmps148
  go_wp2_with (first | ((with_reducible refine gate_dst (N := 1) rfl ?_); refine box_event ?hg (N := 1) ?hd (cs := #[.int .i64 a0_0, .int .i64 a0_1, .int .i64 a0_2, .int .i64 a0_3, .int .i64 a0_4]) (t := 39) ?hr ?_; (case hd => rfl); (case hg => rfl); (case hr => first | (go_simp; done) | (go_simp; rfl)); intro gb470 hg w42 hbox hb; have BK470 := zA (hbox); have GW470 := zA ((zq3 : w.heap.size ≤ gb470)); have GE470 := zA ((zq3 : w.heap.size ≤ gb470)); replace HB := zA (below_step zq0 hb); clear hb hbox hg; have hcz43_0 : w42.cell? ⟨gb470, 0, none⟩ = some (.int .i64 a0_0) := (blk_cell BK470.out 0).trans rfl; have hcz43_1 : w42.cell? ⟨gb470, 1, none⟩ = some (.int .i64 a0_1) := (blk_cell BK470.out 1).trans rfl; have hcz43_2 : w42.cell? ⟨gb470, 2, none⟩ = some (.int .i64 a0_2) := (blk_cell BK470.out 2).trans rfl; have hcz43_3 : w42.cell? ⟨gb470, 3, none⟩ = some (.int .i64 a0_3) := (blk_cell BK470.out 3).trans rfl; have hcz43_4 : w42.cell? ⟨gb470, 4, none⟩ = some (.int .i64 a0_4) := (blk_cell BK470.out 4).trans rfl; have hfz43_0 := blk_frozen BK470.out 0; have hfz43_1 := blk_frozen BK470.out 1; have hfz43_2 := blk_frozen BK470.out 2; have hfz43_3 := blk_frozen BK470.out 3; have hfz43_4 := blk_frozen BK470.out 4) | ((with_reducible refine gate_callee (f := 66) rfl ?_); refine goesL_ (some 5) rfl rfl Try.func66 (by kernel_rfl) rfl #[.agg #[.int .i64 a0_0, .int .i64 a0_1, .int .i64 a0_2, .int .i64 a0_3, .int .i64 a0_4]] rfl zq1 ?_; (with_reducible refine (spec_VecOk.calls a0_0 a0_1 a0_2 a0_3 a0_4 false _ A2.out).mono ?_); rintro e w44 ⟨rfl, hb⟩; refine ⟨_, rfl, ?_⟩; replace BK470 := zA (blk_below (g := gb470) (o := .cells #[.int .i64 a0_0, .int .i64 a0_1, .int .i64 a0_2, .int .i64 a0_3, .int .i64 a0_4] 39 (0, 0)) zq20 hb); replace HB := zA (below_step zq5 hb); clear hb) | ((with_reducible refine gate_dst (N := 7) rfl ?_); refine Kd.R_lit (Kd.int .u8) _ 5 ?hg (N := 7) ?hd (xs := ([] : List Int)) (inner := []) (ok := fun _ => True) (okp := fun _ => True) ?hr ?hp (fun _ hk => hk) trivial (Below.refl _ _) (Nat.le_refl _) zq48 ?_; (case hd => rfl); (case hg => rfl); (case hr => first | (go_simp; done) | (go_simp; rfl)); (case hp => exact (Reps.none _ _)); intro v473 w45 ho46 hb hg_ hnew_; clear hg_ hnew_; (first | rw [← Ny472.out] at ho46 | (simp only [Int.reduceToNat] at ho46; rw [← Ny472.out] at ho46)); have HO474 := zA (Kd.R_lower ho46 (below_size zq5)); replace BK470 := zA (blk_below (g := gb470) (o := .cells #[.int .i64 a0_0, .int .i64 a0_1, .int .i64 a0_2, .int .i64 a0_3, .int .i64 a0_4] 39 (0, 0)) zq20 hb); replace HB := zA (below_step zq5 hb); clear hb ho46))
  go_ret
  exact ⟨_, by first | rfl | (simp [errW_none, errW_some] <;> rfl) | (simp [*, errW_none, errW_some] <;> rfl), by (with_reducible repeat (first | apply Kd.R_alloc | apply Kd.R_drewN | apply Kd.R_drew)); exact HO474.out, by repeat (first | (with_reducible first | exact HB.out | apply below_alloc | apply pw_below_drewN | apply below_drew1 | refine below_set ?_ GE470.out) | exact HB.out)⟩

end Go.Proofs.Ytkcgghgkmgbphaa.PFnVecs
