-- WRITTEN BY a turned copy of the kit's printer (wip/patch_print.py), for this claim
import Derived.Test.YtkcgghgkmgbphaaPFnFramesx0
import Derived.Test.YtkcgghgkmgbphaaPFnFramesx1
import Derived.Test.YtkcgghgkmgbphaaPFnFramesx3
import Derived.Test.YtkcgghgkmgbphaaPFnFramesx6
import Derived.Test.YtkcgghgkmgbphaaPFnFramesx10
import Derived.Test.YtkcgghgkmgbphaaPFnFramesx11
import Derived.Test.YtkcgghgkmgbphaaPFnFramesx12
namespace Go.Proofs.Ytkcgghgkmgbphaa.PFnFrames
open Go.RowKit Go.Proofs.YtkcgghgkmgbphaaW.PrintWords Go.Proofs.YtkcgghgkmgbphaaW.PrintLast Go.Proofs.YtkcgghgkmgbphaaW.PrintMore
attribute [local go_sem] max2_int min2_int max_two min_two max_three min_three max_four min_four   -- for this text's walks alone
set_option linter.unusedVariables false
set_option linter.unusedSimpArgs false

attribute [local go_sem] cell_setCell_m
/-! ### spec_PutFrame: function 160 -/
def spec_PutFrame.f (k : Nat) (a0_0 : Int) (a0_1 : Int) (a0_2 : Int) (l0_3 : List Int) : Option (List Int) := (spec_FrameOk.f a0_0 a0_1 a0_2 l0_3).bind fun t509 => (if t509 = true then ((spec_PutInt.f k a0_0).bind fun t516 => ((spec_PutTlv.f k (([] : List Int)) 1 t516).bind fun t519 => ((spec_PutInt.f k a0_1).bind fun t522 => ((spec_PutTlv.f k t519 1 t522).bind fun t525 => (if a0_2 = 0 then ((spec_PutTlv.f k t525 3 l0_3).bind fun t528 => (some t528)) else ((spec_PutInt.f k a0_2).bind fun t531 => ((spec_PutTlv.f k t525 2 t531).bind fun t534 => ((spec_PutTlv.f k t534 3 l0_3).bind fun t537 => (some t537))))))))) else (some (([] : List Int))))
theorem spec_PutFrame.mono : ∀ a0 a1 a2 a3 k, LeO (spec_PutFrame.f k a0 a1 a2 a3) (spec_PutFrame.f (k + 1) a0 a1 a2 a3) := by
 intro a0 a1 a2 a3 k
 unfold spec_PutFrame.f
 have m0_ := @spec_PutInt.mono
 have m1_ := @spec_PutTlv.mono
 exact zR
def spec_PutFrame.T3 : Bool × List (List Nat × List Nat) := (true, [([], []), ([], []), ([1], [1]), ([2], [2]), ([0, 3, 3], [0, 3]), ([], []), ([5], [5]), ([6, 4], [6]), ([4, 7, 7], [4, 7]), ([8, 8, 0, 1, 2, 3, 4, 5, 6, 7, 8], [8])])
def spec_PutFrame.B3 : List Nat := [0, 0, 2, 6, 15, 0, 32, 127, 255, 511]
theorem spec_PutFrame.tab3 : rtab .any (opsOf Try.f160 3) = spec_PutFrame.T3 := by kernel_rfl
theorem spec_PutFrame.bits3 : waitsOk spec_PutFrame.T3.2 spec_PutFrame.B3 = true := by kernel_rfl
set_option maxHeartbeats 8000000 in
set_option maxRecDepth 100000 in
theorem spec_PutFrame.calls (k : Nat) (a0_0 : Int) (a0_1 : Int) (a0_2 : Int) (A0_3 : Option Addr) (c0_3 : Nat) (l0_3 : List Int) (r : List Int) (w : World) (hr0_3 : Kd.C (Kd.int .u8) w A0_3 l0_3.length l0_3) (hc0_3 : l0_3.length ≤ c0_3) (h : spec_PutFrame.f k a0_0 a0_1 a0_2 l0_3 = some r) :
  Calls Try.prog 160 #[.agg #[.int .i64 a0_0, .int .i64 a0_1, .int .i64 a0_2, .slice A0_3 l0_3.length c0_3]] w fun e w' => ∃ v0_ : Value, e = .returned (v0_) ∧ Kd.R (Kd.int .u8) 5 w' w.heap.size (fun _ => True) v0_ r ∧ Below w.heap.size w w' := by
 have hu54 := Try.underlying54
 have HR0_3 := zA hr0_3
 have HC0_3 := zA hc0_3
 clear hr0_3 hc0_3
 have HB := zA (Below.refl w.heap.size w)
 unfold spec_PutFrame.f at h
 have H := h
 clear h
 have HC2 := zA H
 clear H
 go_enter Try.func160, Try.ntmps160
 go_upto_region 0 with (fail)
 have H := HC2.out
 clear HC2
 have HC3 := zA H
 clear H
 go_upto_region 1 with (first | ((with_reducible refine gate_dst (N := 1) rfl ?_); refine box_event ?hg (N := 1) ?hd (cs := #[.int .i64 a0_0, .int .i64 a0_1, .int .i64 a0_2, .slice A0_3 l0_3.length c0_3]) (t := 54) ?hr ?_; (case hd => rfl); (case hg => rfl); (case hr => first | (go_simp; done) | (go_simp; rfl)); intro gb508 hg w4 hbox hb; have BK508 := zA (hbox); have GW508 := zA ((zq18 : w.heap.size ≤ gb508)); have GE508 := zA ((zq18 : w.heap.size ≤ gb508)); replace HB := zA (below_step zq0 hb); clear hb hbox hg))
 (try simp only [Act.put, List.setIfInBounds_toArray, List.set_cons_zero, List.set_cons_succ])
 have H := HC3.out
 clear HC3
 obtain ⟨t509, A5, H⟩ := zB H
 try dsimp only at H
 by_cases c6 : t509 = true
 ·subst c6
  rw [if_pos rfl] at H
  have HC7 := zA H
  clear H
  have hcz8_0 : w4.cell? ⟨gb508, 0, none⟩ = some (.int .i64 a0_0) := (blk_cell BK508.out 0).trans rfl
  have hcz8_1 : w4.cell? ⟨gb508, 1, none⟩ = some (.int .i64 a0_1) := (blk_cell BK508.out 1).trans rfl
  have hcz8_2 : w4.cell? ⟨gb508, 2, none⟩ = some (.int .i64 a0_2) := (blk_cell BK508.out 2).trans rfl
  have hcz8_3 : w4.cell? ⟨gb508, 3, none⟩ = some (.slice A0_3 l0_3.length c0_3) := (blk_cell BK508.out 3).trans rfl
  have hfz8_0 := blk_frozen BK508.out 0
  have hfz8_1 := blk_frozen BK508.out 1
  have hfz8_2 := blk_frozen BK508.out 2
  have hfz8_3 := blk_frozen BK508.out 3
  go_upto_region 3 with (first | ((with_reducible refine gate_callee (f := 80) rfl ?_); refine goesL_ (some 5) rfl rfl Try.func80 (by kernel_rfl) rfl #[.agg #[.int .i64 a0_0, .int .i64 a0_1, .int .i64 a0_2, .slice A0_3 l0_3.length c0_3]] rfl zq1 ?_; (with_reducible refine (spec_FrameOk.calls a0_0 a0_1 a0_2 _ _ l0_3 true _ ?side1 ?side2 A5.out).mono ?_); (case side1 => repeat (first | exact (Kd.C_below HR0_3.out HB.out) | (with_reducible refine Kd.C_alloc ?_ _) | (with_reducible refine Kd.C_drewN ?_ _) | (with_reducible refine Kd.C_drew ?_))); (case side2 => exact HC0_3.out); rintro e w9 ⟨rfl, hb⟩; refine ⟨_, rfl, ?_⟩; replace BK508 := zA (blk_below (g := gb508) (o := .cells #[.int .i64 a0_0, .int .i64 a0_1, .int .i64 a0_2, .slice A0_3 l0_3.length c0_3] 54 (0, 0)) zq44 hb); replace HB := zA (below_step zq11 hb); clear hb))
  (try simp only [Act.put, List.setIfInBounds_toArray, List.set_cons_zero, List.set_cons_succ])
  have H := HC7.out
  clear HC7
  obtain ⟨y513, hy513⟩ : ∃ y_ : List Int, y_ = (([] : List Int)) := ⟨_, rfl⟩
  rw [← hy513] at H
  have Ny513 := zA hy513
  clear hy513
  obtain ⟨t516, A10, H⟩ := zB H
  try dsimp only at H
  obtain ⟨t519, A11, H⟩ := zB H
  try dsimp only at H
  obtain ⟨t522, A12, H⟩ := zB H
  try dsimp only at H
  obtain ⟨t525, A13, H⟩ := zB H
  try dsimp only at H
  have HC14 := zA H
  clear H
  try go_wp2
  have n0_ := zA (blk_drew BK508.out)
  have n1_ := zA (below_drew1 HB.out)
  clear BK508
  clear HB
  have BK508 := n0_
  have HB := n1_
  clear n0_ n1_
  refine start_ (n := 10) (S := fun w' => True) (ds := []) #[false, false, false, false, false, false, false, false, false, false] (by kernel_rfl) rfl rfl trivial (fun hHeld => ?_); refine with_tabW spec_PutFrame.tab3 spec_PutFrame.bits3 (fun HT_ HW_ => ?_)
  generalize w9.drew = w15 at BK508 HB hHeld ⊢
  refine pure_ (i := 1) (N := some 9) (v := ?_) (a' := ?_) #[false, true, false, false, false, false, false, false, false, false] rfl rfl (any_of HT_.out (by kernel_rfl)) (fun _ _ _ h => h) (Or.inl ⟨zq110, ?_⟩) ?_ ?_
  rotate_left
  ·intro w'
   go_simp
   with_reducible rfl
  rotate_left
  ·simp only [Act.put, List.setIfInBounds_toArray, List.set_cons_zero, List.set_cons_succ, i64_w, i32_w]
   rfl
  refine pure_ (i := 5) (N := some 13) (v := ?_) (a' := ?_) #[false, true, false, false, false, true, false, false, false, false] rfl rfl (any_of HT_.out (by kernel_rfl)) (fun _ _ _ h => h) (Or.inl ⟨zq110, ?_⟩) ?_ ?_
  rotate_left
  ·intro w'
   go_simp
   with_reducible rfl
  rotate_left
  ·simp only [Act.put, List.setIfInBounds_toArray, List.set_cons_zero, List.set_cons_succ, i64_w, i32_w]
   rfl
  refine inv_at [0, 2, 3, 4, 6, 7, 8, 9] (fun a0_ b a w' => ∃ (v514 : Value) (v517 : Value) (v520 : Value) (v523 : Value) (v526 : Value) (m9_ : Value), a = putSel a0_ b [(0, 8, v514), (2, 10, .int .i64 a0_0), (3, 11, v517), (4, 12, v520), (6, 14, .int .i64 a0_1), (7, 15, v523), (8, 16, v526), (9, 3, m9_)] ∧ (w'.heap[gb508]? = some (.cells #[.int .i64 a0_0, .int .i64 a0_1, .int .i64 a0_2, .slice A0_3 l0_3.length c0_3] 54 (0, 0))) ∧ (Below w.heap.size w w') ∧ (b 0 = true → Kd.R (Kd.int .u8) 5 w' w.heap.size (fun _ => True) v514 y513) ∧ (b 3 = true → Kd.R (Kd.int .u8) 5 w' w.heap.size (fun _ => True) v517 t516) ∧ (b 4 = true → Kd.R (Kd.int .u8) 5 w' w.heap.size (fun _ => True) v520 t519) ∧ (b 7 = true → Kd.R (Kd.int .u8) 5 w' w.heap.size (fun _ => True) v523 t522) ∧ (b 8 = true → Kd.R (Kd.int .u8) 5 w' w.heap.size (fun _ => True) v526 t525) ∧ (b 9 = true → (m9_ : Value) = v526)) HT_.out HW_.out (by kernel_rfl) (by kernel_rfl) ?_ ?_ ?_
  ·exact ⟨.bool false, .bool false, .bool false, .bool false, .bool false, .bool false, (by simp only [putSel, Bool.false_eq_true, if_false]), BK508.out, HB.out, fun h_ => absurd h_ zq40, fun h_ => absurd h_ zq40, fun h_ => absurd h_ zq40, fun h_ => absurd h_ zq40, fun h_ => absurd h_ zq40, fun h_ => absurd h_ zq40⟩
  ·skip
   clear BK508 HB
   refine steps_cons ?_ ?_
   ·rintro b a w' ⟨v514, v517, v520, v523, v526, m9_, ha, Q_BK508, Q_HB, Q_HO515, Q_HO518, Q_HO521, Q_HO524, Q_HO527, Q_X9_⟩ hb_ hon hoff
    refine ⟨_, rfl, fun K hK => ?_⟩
    replace ha := zA ha
    have BK508 := zA Q_BK508
    have HB := zA Q_HB
    refine Kd.R_lit_step (Kd.int .u8) _ 5 ?hg (N := 8) ?hd (xs := ([] : List Int)) (inner := []) (ok := fun _ => True) (okp := fun _ => True) ?hr ?hp (fun _ hk => hk) trivial (Below.refl _ _) (Nat.le_refl _) zq125 ?_; (case hd => rfl); (case hg => rfl); (case hr => first | (go_simp; done) | (go_simp; rfl)); (case hp => exact (Reps.none _ _))
    intro v514 w16 ho17 hb hg_ hnew_
    clear hg_ hnew_
    (first | rw [← Ny513.out] at ho17 | (simp only [Int.reduceToNat] at ho17; rw [← Ny513.out] at ho17))
    have n0_ := zA (Kd.R_lower ho17 (below_size zq11))
    have n1_ := zA (blk_below (g := gb508) (o := .cells #[.int .i64 a0_0, .int .i64 a0_1, .int .i64 a0_2, .slice A0_3 l0_3.length c0_3] 54 (0, 0)) zq44 hb)
    have n2_ := zA (below_step zq11 hb)
    have z_HO518 := fun (h0_ : b 3 = true) => (show Kd.R (Kd.int .u8) 5 w16 w.heap.size (fun _ => True) v517 t516 from by first | exact (Kd.R_elder' zq192 (Kd.R_base ho17) hb) | exact Kd.R_mono (Kd.R_elder' zq192 (Kd.R_base ho17) hb) (fun _ h_ => by first | trivial | exact h_ | exact h_.1))
    clear BK508
    clear HB
    have HO515 := n0_
    have BK508 := n1_
    have HB := n2_
    clear n0_ n1_ n2_
    clear hb ho17
    refine hK.out _ _ ⟨v514, v517, v520, v523, v526, m9_, (by rw [ha.out]; exact putSel_upk 0 hb_ rfl rfl rfl), zq44, zq11, fun _ => zq150, z_HO518, fun h0_ => absurd ((hoff 4 (by kernel_rfl)).symm.trans h0_) zq40, fun h0_ => absurd ((hoff 7 (by kernel_rfl)).symm.trans h0_) zq40, fun h0_ => absurd ((hoff 8 (by kernel_rfl)).symm.trans h0_) zq40, fun h0_ => absurd ((hoff 9 (by kernel_rfl)).symm.trans h0_) zq40⟩
   refine steps_cons ?_ ?_
   ·rintro b a w' ⟨v514, v517, v520, v523, v526, m9_, ha, Q_BK508, Q_HB, Q_HO515, Q_HO518, Q_HO521, Q_HO524, Q_HO527, Q_X9_⟩ hb_ hon hoff
    refine ⟨_, rfl, fun K hK => ?_⟩
    have e9 : a.tmps[9]? = some (.pointer (some ⟨gb508, 0, none⟩)) := by rw [ha]; exact (putSel_off rfl).trans rfl
    replace ha := zA ha
    have BK508 := zA Q_BK508
    have HB := zA Q_HB
    have hc0_ : w'.cell? ⟨gb508, 0, none⟩ = some (.int .i64 a0_0) := (blk_cell BK508.out 0).trans rfl
    have hc1_ : w'.cell? ⟨gb508, 1, none⟩ = some (.int .i64 a0_1) := (blk_cell BK508.out 1).trans rfl
    have hc2_ : w'.cell? ⟨gb508, 2, none⟩ = some (.int .i64 a0_2) := (blk_cell BK508.out 2).trans rfl
    have hc3_ : w'.cell? ⟨gb508, 3, none⟩ = some (.slice A0_3 l0_3.length c0_3) := (blk_cell BK508.out 3).trans rfl
    refine value_ (w1 := w') (v := .int .i64 a0_0) zq110 rfl ?_ ?_
    ·go_simp
     (try simp only [i64_w])
     try rfl
    refine hK.out _ _ ⟨v514, v517, v520, v523, v526, m9_, (by rw [ha.out]; exact putSel_upk 1 hb_ rfl rfl rfl), Q_BK508, Q_HB, Q_HO515, fun h0_ => absurd ((hoff 3 (by kernel_rfl)).symm.trans h0_) zq40, fun h0_ => absurd ((hoff 4 (by kernel_rfl)).symm.trans h0_) zq40, fun h0_ => absurd ((hoff 7 (by kernel_rfl)).symm.trans h0_) zq40, fun h0_ => absurd ((hoff 8 (by kernel_rfl)).symm.trans h0_) zq40, fun h0_ => absurd ((hoff 9 (by kernel_rfl)).symm.trans h0_) zq40⟩
   refine steps_cons ?_ ?_
   ·rintro b a w' ⟨v514, v517, v520, v523, v526, m9_, ha, Q_BK508, Q_HB, Q_HO515, Q_HO518, Q_HO521, Q_HO524, Q_HO527, Q_X9_⟩ hb_ hon hoff
    refine ⟨_, rfl, fun K hK => ?_⟩
    have e10 : a.tmps[10]? = some (.int .i64 a0_0) := by rw [ha]; exact putSel_on (e := (2, 10, .int .i64 a0_0)) 1 rfl rfl (hon 2 (by kernel_rfl)) rfl
    replace ha := zA ha
    have BK508 := zA Q_BK508
    have HB := zA Q_HB
    refine goes_ Try.func152 (by kernel_rfl) rfl #[.int .i64 a0_0] zq110 rfl rfl (by first | (simp only [List.map_toArray, List.map_cons, List.map_nil, Act.eval, Array.getD_eq_getD_getElem?, Option.getD_some, e10]; done) | (simp only [List.map_toArray, List.map_cons, List.map_nil, Act.eval, Array.getD_eq_getD_getElem?, Option.getD_some, e10]; rfl)) ?_
    with_reducible refine (spec_PutInt.calls k a0_0 t516 _ A10.out).mono ?_
    rintro e w16 ⟨v517, rfl, ho0, hb⟩
    refine ⟨_, rfl, ?_⟩
    have n0_ := zA (Kd.R_lower ho0 (below_size zq11))
    have n1_ := zA (blk_below (g := gb508) (o := .cells #[.int .i64 a0_0, .int .i64 a0_1, .int .i64 a0_2, .slice A0_3 l0_3.length c0_3] 54 (0, 0)) zq44 hb)
    have n2_ := zA (below_step zq11 hb)
    have z_HO515 := fun (h0_ : b 0 = true) => (show Kd.R (Kd.int .u8) 5 w16 w.heap.size (fun _ => True) v514 y513 from by first | exact (Kd.R_elder' zq193 (Kd.R_base ho0) hb) | exact Kd.R_mono (Kd.R_elder' zq193 (Kd.R_base ho0) hb) (fun _ h_ => by first | trivial | exact h_ | exact h_.1))
    clear BK508
    clear HB
    have HO518 := n0_
    have BK508 := n1_
    have HB := n2_
    clear n0_ n1_ n2_
    (try clear hb)
    (try clear hb2)
    (try clear hk)
    (try clear hi)
    (try clear ho0)
    refine hK.out _ _ ⟨v514, v517, v520, v523, v526, m9_, (by rw [ha.out]; exact putSel_upk 2 hb_ rfl rfl rfl), zq44, zq11, z_HO515, fun _ => zq151, fun h0_ => absurd ((hoff 4 (by kernel_rfl)).symm.trans h0_) zq40, fun h0_ => absurd ((hoff 7 (by kernel_rfl)).symm.trans h0_) zq40, fun h0_ => absurd ((hoff 8 (by kernel_rfl)).symm.trans h0_) zq40, fun h0_ => absurd ((hoff 9 (by kernel_rfl)).symm.trans h0_) zq40⟩
   refine steps_cons ?_ ?_
   ·rintro b a w' ⟨v514, v517, v520, v523, v526, m9_, ha, Q_BK508, Q_HB, Q_HO515, Q_HO518, Q_HO521, Q_HO524, Q_HO527, Q_X9_⟩ hb_ hon hoff
    refine ⟨_, rfl, fun K hK => ?_⟩
    have e8 : a.tmps[8]? = some (v514) := by rw [ha]; exact putSel_on (e := (0, 8, v514)) 0 rfl rfl (hon 0 (by kernel_rfl)) rfl
    have e11 : a.tmps[11]? = some (v517) := by rw [ha]; exact putSel_on (e := (3, 11, v517)) 2 rfl rfl (hon 3 (by kernel_rfl)) rfl
    replace ha := zA ha
    have BK508 := zA Q_BK508
    have HB := zA Q_HB
    have HO515 := zA (Q_HO515 (hon 0 (by kernel_rfl)))
    have HO518 := zA (Q_HO518 (hon 3 (by kernel_rfl)))
    obtain ⟨Ao20, co20, eo20⟩ := Kd.R_slice HO515.out
    (first | subst eo20 | (injection eo20 with f1_ f2_ f3_; have f4_ := f1_.symm; have f5_ := f3_.symm; clear f1_ f2_ f3_; subst f4_; subst f5_))
    obtain ⟨Ao21, co21, eo21⟩ := Kd.R_slice HO518.out
    (first | subst eo21 | (injection eo21 with f1_ f2_ f3_; have f4_ := f1_.symm; have f5_ := f3_.symm; clear f1_ f2_ f3_; subst f4_; subst f5_))
    refine goes_ Try.func126 (by kernel_rfl) rfl #[.slice Ao20 y513.length co20, .int .i64 1, .slice Ao21 t516.length co21] zq110 rfl rfl (by first | (simp only [List.map_toArray, List.map_cons, List.map_nil, Act.eval, Array.getD_eq_getD_getElem?, Option.getD_some, e8, e11]; done) | (simp only [List.map_toArray, List.map_cons, List.map_nil, Act.eval, Array.getD_eq_getD_getElem?, Option.getD_some, e8, e11]; rfl)) ?_
    with_reducible refine (spec_PutTlv.calls k _ _ y513 1 _ _ t516 t519 _ ?side1 ?side2 ?side3 ?side4 A11.out).mono ?_
    (case side1 => repeat (first | exact (Kd.R_reads' HO515.out).2.2 | (with_reducible refine Kd.C_alloc ?_ _) | (with_reducible refine Kd.C_drewN ?_ _) | (with_reducible refine Kd.C_drew ?_)))
    (case side2 => exact (Kd.R_reads' HO515.out).2.1)
    (case side3 => repeat (first | exact (Kd.R_reads' HO518.out).2.2 | (with_reducible refine Kd.C_alloc ?_ _) | (with_reducible refine Kd.C_drewN ?_ _) | (with_reducible refine Kd.C_drew ?_)))
    (case side4 => exact (Kd.R_reads' HO518.out).2.1)
    rintro e w22 ⟨v520, rfl, ho0, hb⟩
    refine ⟨_, rfl, ?_⟩
    have n0_ := zA (Kd.R_elder' zq55 (Kd.R_base ho0) hb)
    have n1_ := zA (Kd.R_elder' zq56 (Kd.R_base ho0) hb)
    have n2_ := zA (Kd.R_lower (Kd.R_new' (Kd.R_new' ho0 (Kd.R_lt zq55)) (Kd.R_lt zq56)) (below_size zq11))
    have n3_ := zA (blk_below (g := gb508) (o := .cells #[.int .i64 a0_0, .int .i64 a0_1, .int .i64 a0_2, .slice A0_3 l0_3.length c0_3] 54 (0, 0)) zq44 hb)
    have n4_ := zA (below_step zq11 hb)
    clear HO515
    clear HO518
    clear BK508
    clear HB
    have HO515 := n0_
    have HO518 := n1_
    have HO521 := n2_
    have BK508 := n3_
    have HB := n4_
    clear n0_ n1_ n2_ n3_ n4_
    (try clear hb)
    (try clear hb2)
    (try clear hk)
    (try clear hi)
    (try clear ho0)
    refine hK.out _ _ ⟨.slice Ao20 y513.length co20, .slice Ao21 t516.length co21, v520, v523, v526, m9_, (by rw [ha.out]; exact putSel_upk 3 hb_ rfl rfl rfl), zq44, zq11, fun _ => zq150, fun _ => zq151, fun _ => zq169, fun h0_ => absurd ((hoff 7 (by kernel_rfl)).symm.trans h0_) zq40, fun h0_ => absurd ((hoff 8 (by kernel_rfl)).symm.trans h0_) zq40, fun h0_ => absurd ((hoff 9 (by kernel_rfl)).symm.trans h0_) zq40⟩
   refine steps_cons ?_ ?_
   ·rintro b a w' ⟨v514, v517, v520, v523, v526, m9_, ha, Q_BK508, Q_HB, Q_HO515, Q_HO518, Q_HO521, Q_HO524, Q_HO527, Q_X9_⟩ hb_ hon hoff
    refine ⟨_, rfl, fun K hK => ?_⟩
    have e13 : a.tmps[13]? = some (.pointer (some ⟨gb508, 1, none⟩)) := by rw [ha]; exact (putSel_off rfl).trans rfl
    replace ha := zA ha
    have BK508 := zA Q_BK508
    have HB := zA Q_HB
    have hc0_ : w'.cell? ⟨gb508, 0, none⟩ = some (.int .i64 a0_0) := (blk_cell BK508.out 0).trans rfl
    have hc1_ : w'.cell? ⟨gb508, 1, none⟩ = some (.int .i64 a0_1) := (blk_cell BK508.out 1).trans rfl
    have hc2_ : w'.cell? ⟨gb508, 2, none⟩ = some (.int .i64 a0_2) := (blk_cell BK508.out 2).trans rfl
    have hc3_ : w'.cell? ⟨gb508, 3, none⟩ = some (.slice A0_3 l0_3.length c0_3) := (blk_cell BK508.out 3).trans rfl
    refine value_ (w1 := w') (v := .int .i64 a0_1) zq110 rfl ?_ ?_
    ·go_simp
     (try simp only [i64_w])
     try rfl
    refine hK.out _ _ ⟨v514, v517, v520, v523, v526, m9_, (by rw [ha.out]; exact putSel_upk 4 hb_ rfl rfl rfl), Q_BK508, Q_HB, Q_HO515, Q_HO518, Q_HO521, fun h0_ => absurd ((hoff 7 (by kernel_rfl)).symm.trans h0_) zq40, fun h0_ => absurd ((hoff 8 (by kernel_rfl)).symm.trans h0_) zq40, fun h0_ => absurd ((hoff 9 (by kernel_rfl)).symm.trans h0_) zq40⟩
   refine steps_cons ?_ ?_
   ·rintro b a w' ⟨v514, v517, v520, v523, v526, m9_, ha, Q_BK508, Q_HB, Q_HO515, Q_HO518, Q_HO521, Q_HO524, Q_HO527, Q_X9_⟩ hb_ hon hoff
    refine ⟨_, rfl, fun K hK => ?_⟩
    have e14 : a.tmps[14]? = some (.int .i64 a0_1) := by rw [ha]; exact putSel_on (e := (6, 14, .int .i64 a0_1)) 4 rfl rfl (hon 6 (by kernel_rfl)) rfl
    replace ha := zA ha
    have BK508 := zA Q_BK508
    have HB := zA Q_HB
    have HO515 := zA (Q_HO515 (hon 0 (by kernel_rfl)))
    have HO518 := zA (Q_HO518 (hon 3 (by kernel_rfl)))
    have HO521 := zA (Q_HO521 (hon 4 (by kernel_rfl)))
    refine goes_ Try.func152 (by kernel_rfl) rfl #[.int .i64 a0_1] zq110 rfl rfl (by first | (simp only [List.map_toArray, List.map_cons, List.map_nil, Act.eval, Array.getD_eq_getD_getElem?, Option.getD_some, e14]; done) | (simp only [List.map_toArray, List.map_cons, List.map_nil, Act.eval, Array.getD_eq_getD_getElem?, Option.getD_some, e14]; rfl)) ?_
    with_reducible refine (spec_PutInt.calls k a0_1 t522 _ A12.out).mono ?_
    rintro e w23 ⟨v523, rfl, ho0, hb⟩
    refine ⟨_, rfl, ?_⟩
    have n0_ := zA (Kd.R_elder' zq55 (Kd.R_base ho0) hb)
    have n1_ := zA (Kd.R_elder' zq56 (Kd.R_base ho0) hb)
    have n2_ := zA (Kd.R_elder' zq65 (Kd.R_base ho0) hb)
    have n3_ := zA (Kd.R_lower (Kd.R_new' (Kd.R_new' (Kd.R_new' ho0 (Kd.R_lt zq55)) (Kd.R_lt zq56)) (Kd.R_lt zq65)) (below_size zq11))
    have n4_ := zA (blk_below (g := gb508) (o := .cells #[.int .i64 a0_0, .int .i64 a0_1, .int .i64 a0_2, .slice A0_3 l0_3.length c0_3] 54 (0, 0)) zq44 hb)
    have n5_ := zA (below_step zq11 hb)
    clear HO515
    clear HO518
    clear HO521
    clear BK508
    clear HB
    have HO515 := n0_
    have HO518 := n1_
    have HO521 := n2_
    have HO524 := n3_
    have BK508 := n4_
    have HB := n5_
    clear n0_ n1_ n2_ n3_ n4_ n5_
    (try clear hb)
    (try clear hb2)
    (try clear hk)
    (try clear hi)
    (try clear ho0)
    refine hK.out _ _ ⟨v514, v517, v520, v523, v526, m9_, (by rw [ha.out]; exact putSel_upk 5 hb_ rfl rfl rfl), zq44, zq11, fun _ => zq150, fun _ => zq151, fun _ => zq169, fun _ => zq191, fun h0_ => absurd ((hoff 8 (by kernel_rfl)).symm.trans h0_) zq40, fun h0_ => absurd ((hoff 9 (by kernel_rfl)).symm.trans h0_) zq40⟩
   refine steps_cons ?_ ?_
   ·rintro b a w' ⟨v514, v517, v520, v523, v526, m9_, ha, Q_BK508, Q_HB, Q_HO515, Q_HO518, Q_HO521, Q_HO524, Q_HO527, Q_X9_⟩ hb_ hon hoff
    refine ⟨_, rfl, fun K hK => ?_⟩
    have e12 : a.tmps[12]? = some (v520) := by rw [ha]; exact putSel_on (e := (4, 12, v520)) 3 rfl rfl (hon 4 (by kernel_rfl)) rfl
    have e15 : a.tmps[15]? = some (v523) := by rw [ha]; exact putSel_on (e := (7, 15, v523)) 5 rfl rfl (hon 7 (by kernel_rfl)) rfl
    replace ha := zA ha
    have BK508 := zA Q_BK508
    have HB := zA Q_HB
    have HO515 := zA (Q_HO515 (hon 0 (by kernel_rfl)))
    have HO518 := zA (Q_HO518 (hon 3 (by kernel_rfl)))
    have HO521 := zA (Q_HO521 (hon 4 (by kernel_rfl)))
    have HO524 := zA (Q_HO524 (hon 7 (by kernel_rfl)))
    obtain ⟨Ao24, co24, eo24⟩ := Kd.R_slice HO521.out
    (first | subst eo24 | (injection eo24 with f1_ f2_ f3_; have f4_ := f1_.symm; have f5_ := f3_.symm; clear f1_ f2_ f3_; subst f4_; subst f5_))
    obtain ⟨Ao25, co25, eo25⟩ := Kd.R_slice HO524.out
    (first | subst eo25 | (injection eo25 with f1_ f2_ f3_; have f4_ := f1_.symm; have f5_ := f3_.symm; clear f1_ f2_ f3_; subst f4_; subst f5_))
    refine goes_ Try.func126 (by kernel_rfl) rfl #[.slice Ao24 t519.length co24, .int .i64 1, .slice Ao25 t522.length co25] zq110 rfl rfl (by first | (simp only [List.map_toArray, List.map_cons, List.map_nil, Act.eval, Array.getD_eq_getD_getElem?, Option.getD_some, e12, e15]; done) | (simp only [List.map_toArray, List.map_cons, List.map_nil, Act.eval, Array.getD_eq_getD_getElem?, Option.getD_some, e12, e15]; rfl)) ?_
    with_reducible refine (spec_PutTlv.calls k _ _ t519 1 _ _ t522 t525 _ ?side1 ?side2 ?side3 ?side4 A13.out).mono ?_
    (case side1 => repeat (first | exact (Kd.R_reads' HO521.out).2.2 | (with_reducible refine Kd.C_alloc ?_ _) | (with_reducible refine Kd.C_drewN ?_ _) | (with_reducible refine Kd.C_drew ?_)))
    (case side2 => exact (Kd.R_reads' HO521.out).2.1)
    (case side3 => repeat (first | exact (Kd.R_reads' HO524.out).2.2 | (with_reducible refine Kd.C_alloc ?_ _) | (with_reducible refine Kd.C_drewN ?_ _) | (with_reducible refine Kd.C_drew ?_)))
    (case side4 => exact (Kd.R_reads' HO524.out).2.1)
    rintro e w26 ⟨v526, rfl, ho0, hb⟩
    refine ⟨_, rfl, ?_⟩
    have n0_ := zA (Kd.R_elder' zq55 (Kd.R_base ho0) hb)
    have n1_ := zA (Kd.R_elder' zq56 (Kd.R_base ho0) hb)
    have n2_ := zA (Kd.R_elder' zq65 (Kd.R_base ho0) hb)
    have n3_ := zA (Kd.R_elder' zq80 (Kd.R_base ho0) hb)
    have n4_ := zA (Kd.R_lower (Kd.R_new' (Kd.R_new' (Kd.R_new' (Kd.R_new' ho0 (Kd.R_lt zq55)) (Kd.R_lt zq56)) (Kd.R_lt zq65)) (Kd.R_lt zq80)) (below_size zq11))
    have n5_ := zA (blk_below (g := gb508) (o := .cells #[.int .i64 a0_0, .int .i64 a0_1, .int .i64 a0_2, .slice A0_3 l0_3.length c0_3] 54 (0, 0)) zq44 hb)
    have n6_ := zA (below_step zq11 hb)
    clear HO515
    clear HO518
    clear HO521
    clear HO524
    clear BK508
    clear HB
    have HO515 := n0_
    have HO518 := n1_
    have HO521 := n2_
    have HO524 := n3_
    have HO527 := n4_
    have BK508 := n5_
    have HB := n6_
    clear n0_ n1_ n2_ n3_ n4_ n5_ n6_
    (try clear hb)
    (try clear hb2)
    (try clear hk)
    (try clear hi)
    (try clear ho0)
    refine hK.out _ _ ⟨v514, v517, .slice Ao24 t519.length co24, .slice Ao25 t522.length co25, v526, m9_, (by rw [ha.out]; exact putSel_upk 6 hb_ rfl rfl rfl), zq44, zq11, fun _ => zq150, fun _ => zq151, fun _ => zq169, fun _ => zq191, fun _ => (by (with_reducible repeat (first | apply Kd.R_alloc | apply Kd.R_drewN | apply Kd.R_drew)); exact Kd.R_mono HO527.out (fun _ _ => trivial)), fun h0_ => absurd ((hoff 9 (by kernel_rfl)).symm.trans h0_) zq40⟩
   refine steps_cons ?_ ?_
   ·rintro b a w' ⟨v514, v517, v520, v523, v526, m9_, ha, Q_BK508, Q_HB, Q_HO515, Q_HO518, Q_HO521, Q_HO524, Q_HO527, Q_X9_⟩ hb_ hon hoff
    refine ⟨_, rfl, fun K hK => ?_⟩
    have e16 : a.tmps[16]? = some (v526) := by rw [ha]; exact putSel_on (e := (8, 16, v526)) 6 rfl rfl (hon 8 (by kernel_rfl)) rfl
    replace ha := zA ha
    have BK508 := zA Q_BK508
    have HB := zA Q_HB
    have HO515 := zA (Q_HO515 (hon 0 (by kernel_rfl)))
    have HO518 := zA (Q_HO518 (hon 3 (by kernel_rfl)))
    have HO521 := zA (Q_HO521 (hon 4 (by kernel_rfl)))
    have HO524 := zA (Q_HO524 (hon 7 (by kernel_rfl)))
    have HO527 := zA (Q_HO527 (hon 8 (by kernel_rfl)))
    refine value_ (w1 := w') (v := v526) zq110 rfl ?_ ?_
    ·go_simp
     (try simp only [i64_w])
     try rfl
    refine hK.out _ _ ⟨v514, v517, v520, v523, v526, (v526), (by rw [ha.out]; exact putSel_upk 7 hb_ rfl rfl rfl), Q_BK508, Q_HB, Q_HO515, Q_HO518, Q_HO521, Q_HO524, Q_HO527, fun _ => rfl⟩
   exact steps_nil
  rintro b a w26 hall ⟨v514, v517, v520, v523, v526, m9_, ha, Q_BK508, Q_HB, Q_HO515, Q_HO518, Q_HO521, Q_HO524, Q_HO527, Q_X9_⟩
  clear BK508 HB
  have hb0_ := hall 0 (by kernel_rfl)
  have hb2_ := hall 2 (by kernel_rfl)
  have hb3_ := hall 3 (by kernel_rfl)
  have hb4_ := hall 4 (by kernel_rfl)
  have hb6_ := hall 6 (by kernel_rfl)
  have hb7_ := hall 7 (by kernel_rfl)
  have hb8_ := hall 8 (by kernel_rfl)
  have hb9_ := hall 9 (by kernel_rfl)
  subst ha
  obtain rfl := Q_X9_ hb9_
  simp only [putSel, hb0_, hb2_, hb3_, hb4_, hb6_, hb7_, hb8_, hb9_, if_true, Act.put, List.setIfInBounds_toArray, List.set_cons_zero, List.set_cons_succ]
  have BK508 := zA Q_BK508
  clear Q_BK508
  have HB := zA Q_HB
  clear Q_HB
  have HO515 := zA (Q_HO515 hb0_)
  clear Q_HO515
  have HO518 := zA (Q_HO518 hb3_)
  clear Q_HO518
  have HO521 := zA (Q_HO521 hb4_)
  clear Q_HO521
  have HO524 := zA (Q_HO524 hb7_)
  clear Q_HO524
  have HO527 := zA (Q_HO527 hb8_)
  clear Q_HO527
  clear hall hb0_ hb2_ hb3_ hb4_ hb6_ hb7_ hb8_ hb9_
  go_upto_region 4 with (fail)
  have H := HC14.out
  clear HC14
  by_cases c27 : a0_2 = 0
  ·rw [if_pos c27] at H
   have c27b0 : (a0_2 == 0) = true := beq_iff_eq.mpr c27
   have c27b1 : (a0_2 != 0) = false := bne_eq_false_iff_eq.mpr c27
   clear c27
   have HC28 := zA H
   clear H
   have hcz29_0 : w26.cell? ⟨gb508, 0, none⟩ = some (.int .i64 a0_0) := (blk_cell BK508.out 0).trans rfl
   have hcz29_1 : w26.cell? ⟨gb508, 1, none⟩ = some (.int .i64 a0_1) := (blk_cell BK508.out 1).trans rfl
   have hcz29_2 : w26.cell? ⟨gb508, 2, none⟩ = some (.int .i64 a0_2) := (blk_cell BK508.out 2).trans rfl
   have hcz29_3 : w26.cell? ⟨gb508, 3, none⟩ = some (.slice A0_3 l0_3.length c0_3) := (blk_cell BK508.out 3).trans rfl
   have hfz29_0 := blk_frozen BK508.out 0
   have hfz29_1 := blk_frozen BK508.out 1
   have hfz29_2 := blk_frozen BK508.out 2
   have hfz29_3 := blk_frozen BK508.out 3
   go_upto_region 6 with (fail)
   have H := HC28.out
   clear HC28
   obtain ⟨t528, A30, H⟩ := zB H
   try dsimp only at H
   obtain rfl := Option.some.inj H
   have hcz31_0 : w26.cell? ⟨gb508, 0, none⟩ = some (.int .i64 a0_0) := (blk_cell BK508.out 0).trans rfl
   have hcz31_1 : w26.cell? ⟨gb508, 1, none⟩ = some (.int .i64 a0_1) := (blk_cell BK508.out 1).trans rfl
   have hcz31_2 : w26.cell? ⟨gb508, 2, none⟩ = some (.int .i64 a0_2) := (blk_cell BK508.out 2).trans rfl
   have hcz31_3 : w26.cell? ⟨gb508, 3, none⟩ = some (.slice A0_3 l0_3.length c0_3) := (blk_cell BK508.out 3).trans rfl
   have hfz31_0 := blk_frozen BK508.out 0
   have hfz31_1 := blk_frozen BK508.out 1
   have hfz31_2 := blk_frozen BK508.out 2
   have hfz31_3 := blk_frozen BK508.out 3
   obtain ⟨Ao32, co32, eo32⟩ := Kd.R_slice HO527.out
   subst eo32
   go_wp2_with (first | ((with_reducible refine gate_callee (f := 126) rfl ?_); refine goesL_ (some 28) rfl rfl Try.func126 (by kernel_rfl) rfl #[.slice Ao32 t525.length co32, .int .i64 3, .slice A0_3 l0_3.length c0_3] rfl zq1 ?_; (with_reducible refine (spec_PutTlv.calls k _ _ t525 3 _ _ l0_3 t528 _ ?side1 ?side2 ?side3 ?side4 A30.out).mono ?_); (case side1 => repeat (first | exact (Kd.R_reads' HO527.out).2.2 | (with_reducible refine Kd.C_alloc ?_ _) | (with_reducible refine Kd.C_drewN ?_ _) | (with_reducible refine Kd.C_drew ?_))); (case side2 => exact (Kd.R_reads' HO527.out).2.1); (case side3 => repeat (first | exact (Kd.C_below HR0_3.out HB.out) | (with_reducible refine Kd.C_alloc ?_ _) | (with_reducible refine Kd.C_drewN ?_ _) | (with_reducible refine Kd.C_drew ?_))); (case side4 => exact HC0_3.out); rintro e w33 ⟨v529, rfl, ho0, hb⟩; refine ⟨_, rfl, ?_⟩; have HO530 := zA (Kd.R_lower (Kd.R_new' (Kd.R_new' (Kd.R_new' (Kd.R_new' (Kd.R_new' ho0 (Kd.R_lt zq55)) (Kd.R_lt zq56)) (Kd.R_lt zq65)) (Kd.R_lt zq80)) (Kd.R_lt zq99)) (below_size zq11)); replace HO515 := zA (Kd.R_elder' zq55 (Kd.R_base ho0) hb); replace HO518 := zA (Kd.R_elder' zq56 (Kd.R_base ho0) hb); replace HO521 := zA (Kd.R_elder' zq65 (Kd.R_base ho0) hb); replace HO524 := zA (Kd.R_elder' zq80 (Kd.R_base ho0) hb); replace HO527 := zA (Kd.R_elder' zq99 (Kd.R_base ho0) hb); replace BK508 := zA (blk_below (g := gb508) (o := .cells #[.int .i64 a0_0, .int .i64 a0_1, .int .i64 a0_2, .slice A0_3 l0_3.length c0_3] 54 (0, 0)) zq44 hb); replace HB := zA (below_step zq11 hb); clear hb ho0))
   go_ret
   exact ⟨_, zq5, (by (with_reducible repeat (first | apply Kd.R_alloc | apply Kd.R_drewN | apply Kd.R_drew)); exact Kd.R_mono HO530.out (fun _ hk => trivial)), zq11⟩
  ·rw [if_neg c27] at H
   have c27b0 : (a0_2 == 0) = false := beq_eq_false_iff_ne.mpr c27
   have c27b1 : (a0_2 != 0) = true := bne_iff_ne.mpr c27
   have HC34 := zA H
   clear H
   have hcz35_0 : w26.cell? ⟨gb508, 0, none⟩ = some (.int .i64 a0_0) := (blk_cell BK508.out 0).trans rfl
   have hcz35_1 : w26.cell? ⟨gb508, 1, none⟩ = some (.int .i64 a0_1) := (blk_cell BK508.out 1).trans rfl
   have hcz35_2 : w26.cell? ⟨gb508, 2, none⟩ = some (.int .i64 a0_2) := (blk_cell BK508.out 2).trans rfl
   have hcz35_3 : w26.cell? ⟨gb508, 3, none⟩ = some (.slice A0_3 l0_3.length c0_3) := (blk_cell BK508.out 3).trans rfl
   have hfz35_0 := blk_frozen BK508.out 0
   have hfz35_1 := blk_frozen BK508.out 1
   have hfz35_2 := blk_frozen BK508.out 2
   have hfz35_3 := blk_frozen BK508.out 3
   go_upto_region 5 with (fail)
   have H := HC34.out
   clear HC34
   obtain ⟨t531, A36, H⟩ := zB H
   try dsimp only at H
   obtain ⟨t534, A37, H⟩ := zB H
   try dsimp only at H
   have HC38 := zA H
   clear H
   have hcz39_0 : w26.cell? ⟨gb508, 0, none⟩ = some (.int .i64 a0_0) := (blk_cell BK508.out 0).trans rfl
   have hcz39_1 : w26.cell? ⟨gb508, 1, none⟩ = some (.int .i64 a0_1) := (blk_cell BK508.out 1).trans rfl
   have hcz39_2 : w26.cell? ⟨gb508, 2, none⟩ = some (.int .i64 a0_2) := (blk_cell BK508.out 2).trans rfl
   have hcz39_3 : w26.cell? ⟨gb508, 3, none⟩ = some (.slice A0_3 l0_3.length c0_3) := (blk_cell BK508.out 3).trans rfl
   have hfz39_0 := blk_frozen BK508.out 0
   have hfz39_1 := blk_frozen BK508.out 1
   have hfz39_2 := blk_frozen BK508.out 2
   have hfz39_3 := blk_frozen BK508.out 3
   go_upto_region 6 with (first | ((with_reducible refine gate_callee (f := 152) rfl ?_); refine goesL_ (some 23) rfl rfl Try.func152 (by kernel_rfl) rfl #[.int .i64 a0_2] rfl zq1 ?_; (with_reducible refine (spec_PutInt.calls k a0_2 t531 _ A36.out).mono ?_); rintro e w40 ⟨v532, rfl, ho0, hb⟩; refine ⟨_, rfl, ?_⟩; have HO533 := zA (Kd.R_lower (Kd.R_new' (Kd.R_new' (Kd.R_new' (Kd.R_new' (Kd.R_new' ho0 (Kd.R_lt zq55)) (Kd.R_lt zq56)) (Kd.R_lt zq65)) (Kd.R_lt zq80)) (Kd.R_lt zq99)) (below_size zq11)); replace HO515 := zA (Kd.R_elder' zq55 (Kd.R_base ho0) hb); replace HO518 := zA (Kd.R_elder' zq56 (Kd.R_base ho0) hb); replace HO521 := zA (Kd.R_elder' zq65 (Kd.R_base ho0) hb); replace HO524 := zA (Kd.R_elder' zq80 (Kd.R_base ho0) hb); replace HO527 := zA (Kd.R_elder' zq99 (Kd.R_base ho0) hb); replace BK508 := zA (blk_below (g := gb508) (o := .cells #[.int .i64 a0_0, .int .i64 a0_1, .int .i64 a0_2, .slice A0_3 l0_3.length c0_3] 54 (0, 0)) zq44 hb); replace HB := zA (below_step zq11 hb); clear hb ho0; obtain ⟨Ao41, co41, eo41⟩ := Kd.R_slice HO527.out; subst eo41; obtain ⟨Ao42, co42, eo42⟩ := Kd.R_slice HO533.out; subst eo42) | ((with_reducible refine gate_callee (f := 126) rfl ?_); refine goesL_ (some 24) rfl rfl Try.func126 (by kernel_rfl) rfl #[.slice Ao41 t525.length co41, .int .i64 2, .slice Ao42 t531.length co42] rfl zq1 ?_; (with_reducible refine (spec_PutTlv.calls k _ _ t525 2 _ _ t531 t534 _ ?side1 ?side2 ?side3 ?side4 A37.out).mono ?_); (case side1 => repeat (first | exact (Kd.R_reads' HO527.out).2.2 | (with_reducible refine Kd.C_alloc ?_ _) | (with_reducible refine Kd.C_drewN ?_ _) | (with_reducible refine Kd.C_drew ?_))); (case side2 => exact (Kd.R_reads' HO527.out).2.1); (case side3 => repeat (first | exact (Kd.R_reads' HO533.out).2.2 | (with_reducible refine Kd.C_alloc ?_ _) | (with_reducible refine Kd.C_drewN ?_ _) | (with_reducible refine Kd.C_drew ?_))); (case side4 => exact (Kd.R_reads' HO533.out).2.1); rintro e w43 ⟨v535, rfl, ho0, hb⟩; refine ⟨_, rfl, ?_⟩; have HO536 := zA (Kd.R_lower (Kd.R_new' (Kd.R_new' (Kd.R_new' (Kd.R_new' (Kd.R_new' (Kd.R_new' ho0 (Kd.R_lt zq55)) (Kd.R_lt zq56)) (Kd.R_lt zq65)) (Kd.R_lt zq80)) (Kd.R_lt zq99)) (Kd.R_lt zq164)) (below_size zq11)); replace HO515 := zA (Kd.R_elder' zq55 (Kd.R_base ho0) hb); replace HO518 := zA (Kd.R_elder' zq56 (Kd.R_base ho0) hb); replace HO521 := zA (Kd.R_elder' zq65 (Kd.R_base ho0) hb); replace HO524 := zA (Kd.R_elder' zq80 (Kd.R_base ho0) hb); replace HO527 := zA (Kd.R_elder' zq99 (Kd.R_base ho0) hb); replace HO533 := zA (Kd.R_elder' zq164 (Kd.R_base ho0) hb); replace BK508 := zA (blk_below (g := gb508) (o := .cells #[.int .i64 a0_0, .int .i64 a0_1, .int .i64 a0_2, .slice A0_3 l0_3.length c0_3] 54 (0, 0)) zq44 hb); replace HB := zA (below_step zq11 hb); clear hb ho0))
   (try simp only [Act.put, List.setIfInBounds_toArray, List.set_cons_zero, List.set_cons_succ])
   have H := HC38.out
   clear HC38
   obtain ⟨t537, A44, H⟩ := zB H
   try dsimp only at H
   obtain rfl := Option.some.inj H
   have hcz45_0 : w43.cell? ⟨gb508, 0, none⟩ = some (.int .i64 a0_0) := (blk_cell BK508.out 0).trans rfl
   have hcz45_1 : w43.cell? ⟨gb508, 1, none⟩ = some (.int .i64 a0_1) := (blk_cell BK508.out 1).trans rfl
   have hcz45_2 : w43.cell? ⟨gb508, 2, none⟩ = some (.int .i64 a0_2) := (blk_cell BK508.out 2).trans rfl
   have hcz45_3 : w43.cell? ⟨gb508, 3, none⟩ = some (.slice A0_3 l0_3.length c0_3) := (blk_cell BK508.out 3).trans rfl
   have hfz45_0 := blk_frozen BK508.out 0
   have hfz45_1 := blk_frozen BK508.out 1
   have hfz45_2 := blk_frozen BK508.out 2
   have hfz45_3 := blk_frozen BK508.out 3
   obtain ⟨Ao46, co46, eo46⟩ := Kd.R_slice HO536.out
   subst eo46
   go_wp2_with (first | ((with_reducible refine gate_callee (f := 126) rfl ?_); refine goesL_ (some 28) rfl rfl Try.func126 (by kernel_rfl) rfl #[.slice Ao46 t534.length co46, .int .i64 3, .slice A0_3 l0_3.length c0_3] rfl zq1 ?_; (with_reducible refine (spec_PutTlv.calls k _ _ t534 3 _ _ l0_3 t537 _ ?side1 ?side2 ?side3 ?side4 A44.out).mono ?_); (case side1 => repeat (first | exact (Kd.R_reads' HO536.out).2.2 | (with_reducible refine Kd.C_alloc ?_ _) | (with_reducible refine Kd.C_drewN ?_ _) | (with_reducible refine Kd.C_drew ?_))); (case side2 => exact (Kd.R_reads' HO536.out).2.1); (case side3 => repeat (first | exact (Kd.C_below HR0_3.out HB.out) | (with_reducible refine Kd.C_alloc ?_ _) | (with_reducible refine Kd.C_drewN ?_ _) | (with_reducible refine Kd.C_drew ?_))); (case side4 => exact HC0_3.out); rintro e w47 ⟨v538, rfl, ho0, hb⟩; refine ⟨_, rfl, ?_⟩; have HO539 := zA (Kd.R_lower (Kd.R_new' (Kd.R_new' (Kd.R_new' (Kd.R_new' (Kd.R_new' (Kd.R_new' (Kd.R_new' ho0 (Kd.R_lt zq55)) (Kd.R_lt zq56)) (Kd.R_lt zq65)) (Kd.R_lt zq80)) (Kd.R_lt zq99)) (Kd.R_lt zq164)) (Kd.R_lt zq202)) (below_size zq11)); replace HO515 := zA (Kd.R_elder' zq55 (Kd.R_base ho0) hb); replace HO518 := zA (Kd.R_elder' zq56 (Kd.R_base ho0) hb); replace HO521 := zA (Kd.R_elder' zq65 (Kd.R_base ho0) hb); replace HO524 := zA (Kd.R_elder' zq80 (Kd.R_base ho0) hb); replace HO527 := zA (Kd.R_elder' zq99 (Kd.R_base ho0) hb); replace HO533 := zA (Kd.R_elder' zq164 (Kd.R_base ho0) hb); replace HO536 := zA (Kd.R_elder' zq202 (Kd.R_base ho0) hb); replace BK508 := zA (blk_below (g := gb508) (o := .cells #[.int .i64 a0_0, .int .i64 a0_1, .int .i64 a0_2, .slice A0_3 l0_3.length c0_3] 54 (0, 0)) zq44 hb); replace HB := zA (below_step zq11 hb); clear hb ho0))
   go_ret
   exact ⟨_, zq5, (by (with_reducible repeat (first | apply Kd.R_alloc | apply Kd.R_drewN | apply Kd.R_drew)); exact Kd.R_mono HO539.out (fun _ hk => trivial)), zq11⟩
 ·replace c6 := Bool.eq_false_iff.mpr c6
  subst c6
  rw [if_neg zF] at H
  have HC48 := zA H
  clear H
  have hcz49_0 : w4.cell? ⟨gb508, 0, none⟩ = some (.int .i64 a0_0) := (blk_cell BK508.out 0).trans rfl
  have hcz49_1 : w4.cell? ⟨gb508, 1, none⟩ = some (.int .i64 a0_1) := (blk_cell BK508.out 1).trans rfl
  have hcz49_2 : w4.cell? ⟨gb508, 2, none⟩ = some (.int .i64 a0_2) := (blk_cell BK508.out 2).trans rfl
  have hcz49_3 : w4.cell? ⟨gb508, 3, none⟩ = some (.slice A0_3 l0_3.length c0_3) := (blk_cell BK508.out 3).trans rfl
  have hfz49_0 := blk_frozen BK508.out 0
  have hfz49_1 := blk_frozen BK508.out 1
  have hfz49_2 := blk_frozen BK508.out 2
  have hfz49_3 := blk_frozen BK508.out 3
  go_upto_region 2 with (first | ((with_reducible refine gate_callee (f := 80) rfl ?_); refine goesL_ (some 5) rfl rfl Try.func80 (by kernel_rfl) rfl #[.agg #[.int .i64 a0_0, .int .i64 a0_1, .int .i64 a0_2, .slice A0_3 l0_3.length c0_3]] rfl zq1 ?_; (with_reducible refine (spec_FrameOk.calls a0_0 a0_1 a0_2 _ _ l0_3 false _ ?side1 ?side2 A5.out).mono ?_); (case side1 => repeat (first | exact (Kd.C_below HR0_3.out HB.out) | (with_reducible refine Kd.C_alloc ?_ _) | (with_reducible refine Kd.C_drewN ?_ _) | (with_reducible refine Kd.C_drew ?_))); (case side2 => exact HC0_3.out); rintro e w50 ⟨rfl, hb⟩; refine ⟨_, rfl, ?_⟩; replace BK508 := zA (blk_below (g := gb508) (o := .cells #[.int .i64 a0_0, .int .i64 a0_1, .int .i64 a0_2, .slice A0_3 l0_3.length c0_3] 54 (0, 0)) zq44 hb); replace HB := zA (below_step zq11 hb); clear hb))
  (try simp only [Act.put, List.setIfInBounds_toArray, List.set_cons_zero, List.set_cons_succ])
  have H := HC48.out
  clear HC48
  obtain ⟨y510, hy510⟩ : ∃ y_ : List Int, y_ = (([] : List Int)) := ⟨_, rfl⟩
  rw [← hy510] at H
  have Ny510 := zA hy510
  clear hy510
  obtain rfl := Option.some.inj H
  go_wp2_with (first | ((with_reducible refine gate_dst (N := 7) rfl ?_); refine Kd.R_lit (Kd.int .u8) _ 5 ?hg (N := 7) ?hd (xs := ([] : List Int)) (inner := []) (ok := fun _ => True) (okp := fun _ => True) ?hr ?hp (fun _ hk => hk) trivial (Below.refl _ _) (Nat.le_refl _) zq125 ?_; (case hd => rfl); (case hg => rfl); (case hr => first | (go_simp; done) | (go_simp; rfl)); (case hp => exact (Reps.none _ _)); intro v511 w51 ho52 hb hg_ hnew_; clear hg_ hnew_; (first | rw [← Ny510.out] at ho52 | (simp only [Int.reduceToNat] at ho52; rw [← Ny510.out] at ho52)); have HO512 := zA (Kd.R_lower ho52 (below_size zq11)); replace BK508 := zA (blk_below (g := gb508) (o := .cells #[.int .i64 a0_0, .int .i64 a0_1, .int .i64 a0_2, .slice A0_3 l0_3.length c0_3] 54 (0, 0)) zq44 hb); replace HB := zA (below_step zq11 hb); clear hb ho52))
  go_ret
  exact ⟨_, zq5, (by (with_reducible repeat (first | apply Kd.R_alloc | apply Kd.R_drewN | apply Kd.R_drew)); exact HO512.out), zq11⟩

/-! ### spec_DrawGetFrame: function 76 -/
def spec_DrawGetFrame.f (k : Nat) (l0 : List Int) : Option (List Int) := (spec_l1New.f k l0).bind fun bt540 => ((spec_l6Draw.f k bt540.1 bt540.2.1 bt540.2.2).bind fun bt544 => ((spec_PutFrame.f k bt544.1 bt544.2.1 bt544.2.2.1 bt544.2.2.2.1).bind fun t552 => ((spec_l1Bend.f bt540.1 bt544.2.2.2.2.1 bt544.2.2.2.2.2 t552).bind fun bt555 => (some bt555.1))))
theorem spec_DrawGetFrame.mono : ∀ a0 k, LeO (spec_DrawGetFrame.f k a0) (spec_DrawGetFrame.f (k + 1) a0) := by
 intro a0 k
 unfold spec_DrawGetFrame.f
 have m0_ := @spec_PutFrame.mono
 have m1_ := @spec_l1New.mono
 have m2_ := @spec_l6Draw.mono
 exact zR
set_option maxHeartbeats 8000000 in
set_option maxRecDepth 100000 in
theorem spec_DrawGetFrame.calls (k : Nat) (A0 : Option Addr) (c0 : Nat) (l0 : List Int) (r : List Int) (w : World) (hr0 : Kd.C (Kd.int .u8) w A0 l0.length l0) (hc0 : l0.length ≤ c0) (h : spec_DrawGetFrame.f k l0 = some r) :
  Calls Try.prog 76 #[.slice A0 l0.length c0] w fun e w' => ∃ v0_ : Value, e = .returned (v0_) ∧ Kd.R (Kd.int .u8) 5 w' w.heap.size (fun _ => True) v0_ r ∧ Below w.heap.size w w' := by
 have HR0 := zA hr0
 have HC0 := zA hc0
 clear hr0 hc0
 have HB := zA (Below.refl w.heap.size w)
 unfold spec_DrawGetFrame.f at h
 have H := h
 clear h
 have HC2 := zA H
 clear H
 go_enter Try.func76, Try.ntmps76
 go_upto_region 0 with (fail)
 have H := HC2.out
 clear HC2
 have HC3 := zA H
 clear H
 go_upto_region 1 with (fail)
 have H := HC3.out
 clear HC3
 obtain ⟨⟨t540, t541, t542⟩, A4, H⟩ := zB H
 try dsimp only at H
 have HC5 := zA H
 clear H
 go_upto_region 2 with (first | ((with_reducible refine gate_callee (f := 104) rfl ?_); refine goesL_ (some 5) rfl rfl Try.func104 (by kernel_rfl) rfl #[.slice A0 l0.length c0] rfl zq1 ?_; (with_reducible refine (spec_l1New.calls k _ _ l0 t540 t541 t542 w _ ?side1 ?side2 ?side3 A4.out).mono ?_); (case side1 => repeat (first | (with_reducible first | exact HB.out | apply below_alloc | apply pw_below_drewN | apply below_drew1) | exact HB.out)); (case side2 => exact HR0.out); (case side3 => exact HC0.out); rintro e w6 ⟨g543, rfl, hi, hb, hb2⟩; refine ⟨_, rfl, ?_⟩; replace HB := zA (hb); have HI543 := zA (hi); clear hb hb2 hi))
 (try simp only [Act.put, List.setIfInBounds_toArray, List.set_cons_zero, List.set_cons_succ])
 have H := HC5.out
 clear HC5
 obtain ⟨⟨t544, t545, t546, t547, t550, t551⟩, A7, H⟩ := zB H
 try dsimp only at H
 obtain ⟨t552, A8, H⟩ := zB H
 try dsimp only at H
 obtain ⟨⟨t555, t558, t559⟩, A9, H⟩ := zB H
 try dsimp only at H
 obtain rfl := Option.some.inj H
 go_wp2_with (first | ((with_reducible refine gate_callee (f := 161) rfl ?_); refine goesL_ (some 8) rfl rfl Try.func161 (by kernel_rfl) rfl #[.pointer (some ⟨g543, 0, none⟩)] rfl zq1 ?_; (with_reducible refine (spec_l6Draw.calls k g543 t540 t541 t542 t544 t545 t546 t547 t550 t551 w _ ?side1 ?side2 A7.out).mono ?_); (case side1 => repeat (first | (with_reducible first | exact HI543.out | apply IsS170.alloc | apply IsS170.drewN | apply IsS170.drew | apply IsS170.set_1 | apply IsS170.set_2) | exact HI543.out)); (case side2 => repeat (first | (with_reducible first | exact HB.out | apply below_alloc | apply pw_below_drewN | apply below_drew1 | refine below_set ?_ (IsS170.ge HI543.out)) | exact HB.out)); rintro e w10 ⟨v548, rfl, ho0, hi, hb, hk⟩; refine ⟨_, rfl, ?_⟩; have HO549 := zA (Kd.R_lower ho0 (below_size zq119)); replace HB := zA (hb); replace HI543 := zA (hi); clear hb hk hi ho0; obtain ⟨Ao11, co11, eo11⟩ := Kd.R_slice HO549.out; subst eo11) | ((with_reducible refine gate_callee (f := 160) rfl ?_); refine goesL_ (some 9) rfl rfl Try.func160 (by kernel_rfl) rfl #[.agg #[.int .i64 t544, .int .i64 t545, .int .i64 t546, .slice Ao11 t547.length co11]] rfl zq1 ?_; (with_reducible refine (spec_PutFrame.calls k t544 t545 t546 _ _ t547 t552 _ ?side1 ?side2 A8.out).mono ?_); (case side1 => repeat (first | exact (Kd.R_reads' HO549.out).2.2 | (with_reducible refine Kd.C_alloc ?_ _) | (with_reducible refine Kd.C_drewN ?_ _) | (with_reducible refine Kd.C_drew ?_))); (case side2 => exact (Kd.R_reads' HO549.out).2.1); rintro e w12 ⟨v553, rfl, ho0, hb⟩; refine ⟨_, rfl, ?_⟩; have HO554 := zA (Kd.R_lower (Kd.R_new' ho0 (Kd.R_lt zq180)) (below_size zq119)); replace HO549 := zA (Kd.R_elder' zq180 (Kd.R_base ho0) hb); replace HB := zA (below_step zq119 hb); replace HI543 := zA (IsS170.below (by repeat (first | (with_reducible first | exact HI543.out | apply IsS170.alloc | apply IsS170.drewN | apply IsS170.drew | apply IsS170.set_1 | apply IsS170.set_2) | exact HI543.out)) hb); clear hb ho0; obtain ⟨Ao13, co13, eo13⟩ := Kd.R_slice HO554.out; subst eo13) | ((with_reducible refine gate_callee (f := 110) rfl ?_); refine goesL_ (some 10) rfl rfl Try.func110 (by kernel_rfl) rfl #[.pointer (some ⟨g543, 0, none⟩), .slice Ao13 t552.length co13] rfl zq1 ?_; (with_reducible refine (spec_l1Bend.calls g543 t540 t550 t551 (fun k_ => some k_ = (.slice Ao13 t552.length co13 : Value).ownBlock) (.slice Ao13 t552.length co13) t552 t555 t558 t559 w _ ?side1 ?side2 ?side3 A9.out).mono ?_); (case side1 => repeat (first | (with_reducible first | exact HI543.out | apply IsS170.alloc | apply IsS170.drewN | apply IsS170.drew | apply IsS170.set_1 | apply IsS170.set_2) | exact HI543.out)); (case side2 => repeat (first | (with_reducible first | exact HB.out | apply below_alloc | apply pw_below_drewN | apply below_drew1 | refine below_set ?_ (IsS170.ge HI543.out)) | exact HB.out)); (case side3 => exact Kd.R_tight rfl HO554.out); rintro e w14 ⟨v556, rfl, ho0, hi, hb, hkp⟩; refine ⟨_, rfl, ?_⟩; have HO557 := zA (Kd.R_mono (ok' := fun k_ => some k_ ≠ (.slice Ao11 t547.length co11 : Value).ownBlock) ho0 (fun k_ hk_ => Or.elim hk_ (fun hs_ => fun e_ => ((((IsS170.apart HI543.out HO549.out zq40)).1 k_ e_.symm).1.2) hs_) (fun hn_ => (Kd.fresh' (Kd.R_lt zq180) k_ hn_)))); replace HO549 := zA (Kd.R_mono (ok' := fun k_ => some k_ ≠ (v556 : Value).ownBlock) (Kd.R_keptB ((IsS170.apart HI543.out HO549.out zq40)) hkp (fun k_ hk_ hs_ => Or.elim hs_ (fun hs_ => (hk_.1.2) hs_) (fun e_ => (hk_.2) e_))) (fun k_ hk_ => fun e_ => Or.elim (ho0.1 k_ e_.symm) (fun hs_ => hk_.2.1 (.inl hs_)) (fun hn_ => Nat.not_le.2 hk_.2.2 hn_))); replace HI543 := zA (hi); replace HB := zA (hb); clear HO554; clear hb hkp ho0))
 go_ret
 exact ⟨_, zq5, (by (with_reducible repeat (first | apply Kd.R_alloc | apply Kd.R_drewN | apply Kd.R_drew)); exact Kd.R_mono HO557.out (fun _ hk => trivial)), zq119⟩

/-! ### spec_DrawTagged: function 77 -/
def spec_DrawTagged.f (k : Nat) (l0 : List Int) : Option (Int × Int × Int × List Int × Int) := (spec_l1New.f k l0).bind fun bt561 => ((spec_l6Any.f k bt561.1 bt561.2.1 bt561.2.2).bind fun bt565 => ((spec_l1Int.f bt561.1 bt565.2.2.2.2.1 bt565.2.2.2.2.2 (([0, 1, 5, (-1)] : List Int))).bind fun bt576 => (some (bt565.1, bt565.2.1, bt565.2.2.1, bt565.2.2.2.1, bt576.1))))
theorem spec_DrawTagged.mono : ∀ a0 k, LeO (spec_DrawTagged.f k a0) (spec_DrawTagged.f (k + 1) a0) := by
 intro a0 k
 unfold spec_DrawTagged.f
 have m0_ := @spec_l1New.mono
 have m1_ := @spec_l6Any.mono
 exact zR
set_option maxHeartbeats 8000000 in
set_option maxRecDepth 100000 in
theorem spec_DrawTagged.calls (k : Nat) (A0 : Option Addr) (c0 : Nat) (l0 : List Int) (r1 : Int) (r2 : Int) (r3 : Int) (r4 : List Int) (r5 : Int) (w : World) (hr0 : Kd.C (Kd.int .u8) w A0 l0.length l0) (hc0 : l0.length ≤ c0) (h : spec_DrawTagged.f k l0 = some (r1, r2, r3, r4, r5)) :
  Calls Try.prog 77 #[.slice A0 l0.length c0] w fun e w' => ∃ v3_ : Value, e = .returned (.tuple #[.agg #[.int .i64 r1, .int .i64 r2, .int .i64 r3, v3_], .int .i64 r5]) ∧ Kd.R (Kd.int .u8) 5 w' w.heap.size (fun _ => True) v3_ r4 ∧ Below w.heap.size w w' := by
 have hu54 := Try.underlying54
 have HR0 := zA hr0
 have HC0 := zA hc0
 clear hr0 hc0
 have HB := zA (Below.refl w.heap.size w)
 unfold spec_DrawTagged.f at h
 have H := h
 clear h
 have HC2 := zA H
 clear H
 go_enter Try.func77, Try.ntmps77
 go_upto_region 0 with (fail)
 have H := HC2.out
 clear HC2
 have HC3 := zA H
 clear H
 go_upto_region 1 with (first | ((with_reducible refine gate_dst (N := 2) rfl ?_); refine box_event ?hg (N := 2) ?hd (cs := #[.int .i64 0, .int .i64 0, .int .i64 0, .slice none 0 0]) (t := 54) ?hr ?_; (case hd => rfl); (case hg => rfl); (case hr => first | (go_simp; done) | (go_simp; rfl)); intro gb560 hg w4 hbox hb; have BK560 := zA (hbox); have GW560 := zA ((zq18 : w.heap.size ≤ gb560)); have GE560 := zA ((zq18 : w.heap.size ≤ gb560)); replace HB := zA (below_step zq0 hb); clear hb hbox hg))
 (try simp only [Act.put, List.setIfInBounds_toArray, List.set_cons_zero, List.set_cons_succ])
 have H := HC3.out
 clear HC3
 obtain ⟨⟨t561, t562, t563⟩, A5, H⟩ := zB H
 try dsimp only at H
 have HC6 := zA H
 clear H
 go_upto_region 2 with (first | ((with_reducible refine gate_callee (f := 104) rfl ?_); refine goesL_ (some 6) rfl rfl Try.func104 (by kernel_rfl) rfl #[.slice A0 l0.length c0] rfl zq1 ?_; (with_reducible refine (spec_l1New.calls k _ _ l0 t561 t562 t563 w _ ?side1 ?side2 ?side3 A5.out).mono ?_); (case side1 => repeat (first | (with_reducible first | exact HB.out | apply below_alloc | apply pw_below_drewN | apply below_drew1 | refine below_set ?_ GE560.out) | exact HB.out)); (case side2 => exact HR0.out); (case side3 => exact HC0.out); rintro e w7 ⟨g564, rfl, hi, hb, hb2⟩; refine ⟨_, rfl, ?_⟩; replace HB := zA (hb); have HI564 := zA (hi); have NB564_560 := zA (IsS170.ne_blk hi (blk_below (g := gb560) (o := .cells #[.int .i64 0, .int .i64 0, .int .i64 0, .slice none 0 0] 54 (0, 0)) zq116 hb2) zq40); have NB560_564 := zA (Ne.symm (IsS170.ne_blk hi (blk_below (g := gb560) (o := .cells #[.int .i64 0, .int .i64 0, .int .i64 0, .slice none 0 0] 54 (0, 0)) zq116 hb2) zq40)); replace BK560 := zA (blk_below (g := gb560) (o := .cells #[.int .i64 0, .int .i64 0, .int .i64 0, .slice none 0 0] 54 (0, 0)) zq116 hb2); clear hb hb2 hi))
 (try simp only [Act.put, List.setIfInBounds_toArray, List.set_cons_zero, List.set_cons_succ])
 have H := HC6.out
 clear HC6
 obtain ⟨⟨t565, t566, t567, t568, t571, t572⟩, A8, H⟩ := zB H
 try dsimp only at H
 obtain ⟨y573, hy573⟩ : ∃ y_ : List Int, y_ = (([0, 1, 5, (-1)] : List Int)) := ⟨_, rfl⟩
 rw [← hy573] at H
 have Ny573 := zA hy573
 clear hy573
 obtain ⟨⟨t576, t577, t578⟩, A9, H⟩ := zB H
 try dsimp only at H
 simp only [Option.some.injEq, Prod.mk.injEq] at H
 obtain ⟨rfl, rfl, rfl, rfl, rfl⟩ := H
 go_wp2_with (first | ((with_reducible refine gate_callee (f := 159) rfl ?_); refine goesL_ (some 8) rfl rfl Try.func159 (by kernel_rfl) rfl #[.pointer (some ⟨g564, 0, none⟩)] rfl zq1 ?_; (with_reducible refine (spec_l6Any.calls k g564 t561 t562 t563 t565 t566 t567 t568 t571 t572 w _ ?side1 ?side2 A8.out).mono ?_); (case side1 => repeat (first | (with_reducible first | exact HI564.out | apply IsS170.alloc | apply IsS170.drewN | apply IsS170.drew | apply IsS170.set_1 | apply IsS170.set_2 | refine IsS170.far ?_ NB564_560.out _) | exact HI564.out)); (case side2 => repeat (first | (with_reducible first | exact HB.out | apply below_alloc | apply pw_below_drewN | apply below_drew1 | refine below_set ?_ (IsS170.ge HI564.out) | refine below_set ?_ GE560.out) | exact HB.out)); rintro e w10 ⟨v569, rfl, ho0, hi, hb, hk⟩; refine ⟨_, rfl, ?_⟩; replace BK560 := zA (KeepBut.blk hk (g' := gb560) (o := .cells #[.int .i64 0, .int .i64 0, .int .i64 0, .slice none 0 0] 54 (0, 0)) zq116 NB560_564.out zq125); have HO570 := zA (Kd.R_lower ho0 (below_size zq113)); replace HB := zA (hb); replace HI564 := zA (hi); clear hb hk hi ho0) | ((with_reducible refine gate_dst (N := 10) rfl ?_); refine Kd.R_lit (Kd.int .i64) _ 3 ?hg (N := 10) ?hd (xs := ([0, 1, 5, (-1)] : List Int)) (inner := [.int .i64 0, .int .i64 1, .int .i64 5, .int .i64 (-1)]) (ok := fun _ => True) (okp := fun _ => True) ?hr ?hp (fun _ hk => hk) trivial (Below.refl _ _) (Nat.le_refl _) zq125 ?_; (case hd => rfl); (case hg => rfl); (case hr => first | (go_simp; done) | (go_simp; rfl)); (case hp => exact (Reps.one (show Kd.M (Kd.int .i64) _ _ _ 0 [.int .i64 0] from rfl) (Reps.one (show Kd.M (Kd.int .i64) _ _ _ 1 [.int .i64 1] from rfl) (Reps.one (show Kd.M (Kd.int .i64) _ _ _ 5 [.int .i64 5] from rfl) (Reps.one (show Kd.M (Kd.int .i64) _ _ _ (-1) [.int .i64 (-1)] from rfl) (Reps.none _ _)))))); intro v574 w11 ho12 hb hg_ hnew_; clear hg_ hnew_; (first | rw [← Ny573.out] at ho12 | (simp only [Int.reduceToNat] at ho12; rw [← Ny573.out] at ho12)); replace HO570 := zA (Kd.R_below zq203 hb); have HO575 := zA (Kd.R_lower ho12 (below_size zq113)); replace BK560 := zA (blk_below (g := gb560) (o := .cells #[.int .i64 0, .int .i64 0, .int .i64 0, .slice none 0 0] 54 (0, 0)) zq116 hb); replace HB := zA (below_step zq113 hb); replace HI564 := zA (IsS170.below (by repeat (first | (with_reducible first | exact HI564.out | apply IsS170.alloc | apply IsS170.drewN | apply IsS170.drew | apply IsS170.set_1 | apply IsS170.set_2 | refine IsS170.far ?_ NB564_560.out _) | exact HI564.out)) hb); clear hb ho12; obtain ⟨Ao13, co13, eo13⟩ := Kd.R_slice HO575.out; subst eo13) | ((with_reducible refine gate_callee (f := 140) rfl ?_); refine goesL_ (some 11) rfl rfl Try.func140 (by kernel_rfl) rfl #[.pointer (some ⟨g564, 0, none⟩), .slice Ao13 y573.length co13] rfl zq1 ?_; (with_reducible refine (spec_l1Int.calls g564 t561 t571 t572 _ _ y573 t576 t577 t578 w _ ?side1 ?side2 ?side3 ?side4 ?side5 A9.out).mono ?_); (case side1 => repeat (first | (with_reducible first | exact HI564.out | apply IsS170.alloc | apply IsS170.drewN | apply IsS170.drew | apply IsS170.set_1 | apply IsS170.set_2 | refine IsS170.far ?_ NB564_560.out _) | exact HI564.out)); (case side2 => repeat (first | (with_reducible first | exact HB.out | apply below_alloc | apply pw_below_drewN | apply below_drew1 | refine below_set ?_ (IsS170.ge HI564.out) | refine below_set ?_ GE560.out) | exact HB.out)); (case side3 => repeat (first | exact (Kd.R_reads' HO575.out).2.2 | (with_reducible refine Kd.C_alloc ?_ _) | (with_reducible refine Kd.C_drewN ?_ _) | (with_reducible refine Kd.C_drew ?_))); (case side4 => exact (Kd.R_reads' HO575.out).2.1); (case side5 => exact far_slice (IsS170.own_ne HI564.out HO575.out zq40)); rintro e w14 ⟨rfl, hi, hb, hk⟩; refine ⟨_, rfl, ?_⟩; replace BK560 := zA (KeepBut.blk hk (g' := gb560) (o := .cells #[.int .i64 0, .int .i64 0, .int .i64 0, .slice none 0 0] 54 (0, 0)) zq116 NB560_564.out zq125); replace HO570 := zA (Kd.R_mono (Kd.R_keep (IsS170.apart (show IsS170 w _ g564 t561 t571 t572 from by repeat (first | (with_reducible first | exact HI564.out | apply IsS170.alloc | apply IsS170.drewN | apply IsS170.drew | apply IsS170.set_1 | apply IsS170.set_2 | refine IsS170.far ?_ NB564_560.out _) | exact HI564.out)) zq203 zq40) hk (fun _ h => h.2)) (fun _ h => h.1)); replace HO575 := zA (Kd.R_mono (Kd.R_keep (IsS170.apart (show IsS170 w _ g564 t561 t571 t572 from by repeat (first | (with_reducible first | exact HI564.out | apply IsS170.alloc | apply IsS170.drewN | apply IsS170.drew | apply IsS170.set_1 | apply IsS170.set_2 | refine IsS170.far ?_ NB564_560.out _) | exact HI564.out)) (by (with_reducible repeat (first | apply Kd.R_alloc | apply Kd.R_drewN | apply Kd.R_drew)); exact HO575.out) zq40) hk (fun _ h => h.2)) (fun _ h => h.1)); replace HB := zA (hb); replace HI564 := zA (hi); clear hb hk hi; have hnb15 := NB560_564.out; have hnc15 := NB564_560.out; have hcz16_0 : w14.cell? ⟨gb560, 0, none⟩ = some (.int .i64 0) := (blk_cell BK560.out 0).trans rfl; have hcz16_1 : w14.cell? ⟨gb560, 1, none⟩ = some (.int .i64 0) := (blk_cell BK560.out 1).trans rfl; have hcz16_2 : w14.cell? ⟨gb560, 2, none⟩ = some (.int .i64 0) := (blk_cell BK560.out 2).trans rfl; have hcz16_3 : w14.cell? ⟨gb560, 3, none⟩ = some (.slice none 0 0) := (blk_cell BK560.out 3).trans rfl; have hfz16_0 := blk_frozen BK560.out 0; have hfz16_1 := blk_frozen BK560.out 1; have hfz16_2 := blk_frozen BK560.out 2; have hfz16_3 := blk_frozen BK560.out 3; obtain ⟨Ao17, co17, eo17⟩ := Kd.R_slice HO570.out; subst eo17))
 refine bodyPost_ret (results_ct rfl _ _ gb560 54 #[.int .i64 t565, .int .i64 t566, .int .i64 t567, .slice Ao17 t568.length co17] (0, 0) _ rfl (by (with_reducible repeat (first | refine blk_drewN ?_ _ | refine blk_drew ?_ | refine blk_alloc ?_ _)); refine blk_put (cs := #[.int .i64 t565, .int .i64 t566, .int .i64 t567, .slice none 0 0]) ?_ 3 _ rfl; (with_reducible repeat (first | refine blk_drewN ?_ _ | refine blk_drew ?_ | refine blk_alloc ?_ _)); refine blk_put (cs := #[.int .i64 t565, .int .i64 t566, .int .i64 0, .slice none 0 0]) ?_ 2 _ rfl; (with_reducible repeat (first | refine blk_drewN ?_ _ | refine blk_drew ?_ | refine blk_alloc ?_ _)); refine blk_put (cs := #[.int .i64 t565, .int .i64 0, .int .i64 0, .slice none 0 0]) ?_ 1 _ rfl; (with_reducible repeat (first | refine blk_drewN ?_ _ | refine blk_drew ?_ | refine blk_alloc ?_ _)); refine blk_put (cs := #[.int .i64 0, .int .i64 0, .int .i64 0, .slice none 0 0]) ?_ 0 _ rfl; (with_reducible repeat (first | refine blk_drewN ?_ _ | refine blk_drew ?_ | refine blk_alloc ?_ _)); exact BK560.out) Try.underlying54 rfl (by kernel_rfl)) rfl ?_
 exact ⟨_, zq5, (by (with_reducible repeat (first | apply Kd.R_alloc | apply Kd.R_drewN | apply Kd.R_drew)); exact Kd.R_mono (Kd.R_far (p := ⟨gb560, 3, none⟩) (Kd.R_far (p := ⟨gb560, 2, none⟩) (Kd.R_far (p := ⟨gb560, 1, none⟩) (Kd.R_far (p := ⟨gb560, 0, none⟩) (Kd.R_types HO570.out BK560.out zq40) (fun _ hk => hk.2) (.int .i64 t565)) (fun _ hk => hk.2) (.int .i64 t566)) (fun _ hk => hk.2) (.int .i64 t567)) (fun _ hk => hk.2) (.slice Ao17 t568.length co17)) (fun _ hk => trivial)), zq113⟩

/-! ### impl_Tagged: function 78 -/
def impl_Tagged.f (a0_0 : Int) (a0_1 : Int) (a0_2 : Int) (l0_3 : List Int) (a1 : Int) : Option (Int × Int × Int × List Int) := (impl_copyBytes.f l0_3).bind fun t581 => (some (a0_0, a0_1, a1, t581))
set_option maxHeartbeats 8000000 in
set_option maxRecDepth 100000 in
theorem impl_Tagged.calls (a0_0 : Int) (a0_1 : Int) (a0_2 : Int) (A0_3 : Option Addr) (c0_3 : Nat) (l0_3 : List Int) (a1 : Int) (r1 : Int) (r2 : Int) (r3 : Int) (r4 : List Int) (w : World) (hr0_3 : Kd.C (Kd.int .u8) w A0_3 l0_3.length l0_3) (hc0_3 : l0_3.length ≤ c0_3) (h : impl_Tagged.f a0_0 a0_1 a0_2 l0_3 a1 = some (r1, r2, r3, r4)) :
  Calls Try.prog 78 #[.agg #[.int .i64 a0_0, .int .i64 a0_1, .int .i64 a0_2, .slice A0_3 l0_3.length c0_3], .int .i64 a1] w fun e w' => ∃ v3_ : Value, e = .returned (.agg #[.int .i64 r1, .int .i64 r2, .int .i64 r3, v3_]) ∧ Kd.R (Kd.int .u8) 5 w' w.heap.size (fun _ => True) v3_ r4 ∧ Below w.heap.size w w' := by
 have hu54 := Try.underlying54
 have HR0_3 := zA hr0_3
 have HC0_3 := zA hc0_3
 clear hr0_3 hc0_3
 have HB := zA (Below.refl w.heap.size w)
 unfold impl_Tagged.f at h
 have H := h
 clear h
 have HC3 := zA H
 clear H
 go_enter Try.func78, Try.ntmps78
 go_upto_region 0 with (fail)
 have H := HC3.out
 clear HC3
 have HC4 := zA H
 clear H
 go_upto_region 1 with (first | ((with_reducible refine gate_dst (N := 2) rfl ?_); refine box_event ?hg (N := 2) ?hd (cs := #[.int .i64 a0_0, .int .i64 a0_1, .int .i64 a0_2, .slice A0_3 l0_3.length c0_3]) (t := 54) ?hr ?_; (case hd => rfl); (case hg => rfl); (case hr => first | (go_simp; done) | (go_simp; rfl)); intro gb579 hg w5 hbox hb; have BK579 := zA (hbox); have GW579 := zA ((zq18 : w.heap.size ≤ gb579)); have GE579 := zA ((zq18 : w.heap.size ≤ gb579)); replace HB := zA (below_step zq0 hb); clear hb hbox hg) | ((with_reducible refine gate_dst (N := 4) rfl ?_); refine box_event ?hg (N := 4) ?hd (cs := #[.int .i64 0, .int .i64 0, .int .i64 0, .slice none 0 0]) (t := 54) ?hr ?_; (case hd => rfl); (case hg => rfl); (case hr => first | (go_simp; done) | (go_simp; rfl)); intro gb580 hg w6 hbox hb; have BK580 := zA (hbox); have GW580 := zA ((zq185 : w.heap.size ≤ gb580)); have GE580 := zA ((zq185 : w.heap.size ≤ gb580)); replace HB := zA (below_step zq158 hb); have NB579_580 := zA ((by rw [hg]; exact Nat.ne_of_lt (blk_lt (g := gb579) (o := .cells #[.int .i64 a0_0, .int .i64 a0_1, .int .i64 a0_2, .slice A0_3 l0_3.length c0_3] 54 (0, 0)) zq157) : gb579 ≠ gb580)); have NB580_579 := zA ((by rw [hg]; exact Nat.ne_of_gt (blk_lt (g := gb579) (o := .cells #[.int .i64 a0_0, .int .i64 a0_1, .int .i64 a0_2, .slice A0_3 l0_3.length c0_3] 54 (0, 0)) zq157) : gb580 ≠ gb579)); replace BK579 := zA (blk_below (g := gb579) (o := .cells #[.int .i64 a0_0, .int .i64 a0_1, .int .i64 a0_2, .slice A0_3 l0_3.length c0_3] 54 (0, 0)) zq157 hb); clear hb hbox hg))
 (try simp only [Act.put, List.setIfInBounds_toArray, List.set_cons_zero, List.set_cons_succ])
 have H := HC4.out
 clear HC4
 obtain ⟨t581, A7, H⟩ := zB H
 try dsimp only at H
 have HC8 := zA H
 clear H
 have hnb9 := NB579_580.out
 have hnc9 := NB580_579.out
 have hcz10_0 : w6.cell? ⟨gb579, 0, none⟩ = some (.int .i64 a0_0) := (blk_cell BK579.out 0).trans rfl
 have hcz10_1 : w6.cell? ⟨gb579, 1, none⟩ = some (.int .i64 a0_1) := (blk_cell BK579.out 1).trans rfl
 have hcz10_2 : w6.cell? ⟨gb579, 2, none⟩ = some (.int .i64 a0_2) := (blk_cell BK579.out 2).trans rfl
 have hcz10_3 : w6.cell? ⟨gb579, 3, none⟩ = some (.slice A0_3 l0_3.length c0_3) := (blk_cell BK579.out 3).trans rfl
 have hfz10_0 := blk_frozen BK579.out 0
 have hfz10_1 := blk_frozen BK579.out 1
 have hfz10_2 := blk_frozen BK579.out 2
 have hfz10_3 := blk_frozen BK579.out 3
 go_upto_region 2 with (first | ((with_reducible refine gate_callee (f := 155) rfl ?_); refine goesL_ (some 7) rfl rfl Try.func155 (by kernel_rfl) rfl #[.slice A0_3 l0_3.length c0_3] rfl zq1 ?_; (with_reducible refine (impl_copyBytes.calls _ _ l0_3 t581 _ ?side1 ?side2 A7.out).mono ?_); (case side1 => repeat (first | exact (Kd.C_below HR0_3.out HB.out) | (with_reducible refine Kd.C_alloc ?_ _) | (with_reducible refine Kd.C_drewN ?_ _) | (with_reducible refine Kd.C_drew ?_))); (case side2 => exact HC0_3.out); rintro e w11 ⟨v582, rfl, ho0, hb⟩; refine ⟨_, rfl, ?_⟩; have HO583 := zA (Kd.R_lower ho0 (below_size zq153)); replace BK579 := zA (blk_below (g := gb579) (o := .cells #[.int .i64 a0_0, .int .i64 a0_1, .int .i64 a0_2, .slice A0_3 l0_3.length c0_3] 54 (0, 0)) zq157 hb); replace BK580 := zA (blk_below (g := gb580) (o := .cells #[.int .i64 0, .int .i64 0, .int .i64 0, .slice none 0 0] 54 (0, 0)) (by (with_reducible repeat (first | refine blk_drewN ?_ _ | refine blk_drew ?_ | refine blk_alloc ?_ _)); exact BK580.out) hb); replace HB := zA (below_step zq153 hb); clear hb ho0; obtain ⟨Ao12, co12, eo12⟩ := Kd.R_slice HO583.out; subst eo12; have hcz13_0 : w11.cell? ⟨gb579, 0, none⟩ = some (.int .i64 a0_0) := (blk_cell BK579.out 0).trans rfl; have hcz13_1 : w11.cell? ⟨gb579, 1, none⟩ = some (.int .i64 a0_1) := (blk_cell BK579.out 1).trans rfl; have hcz13_2 : w11.cell? ⟨gb579, 2, none⟩ = some (.int .i64 a0_2) := (blk_cell BK579.out 2).trans rfl; have hcz13_3 : w11.cell? ⟨gb579, 3, none⟩ = some (.slice A0_3 l0_3.length c0_3) := (blk_cell BK579.out 3).trans rfl; have hfz13_0 := blk_frozen BK579.out 0; have hfz13_1 := blk_frozen BK579.out 1; have hfz13_2 := blk_frozen BK579.out 2; have hfz13_3 := blk_frozen BK579.out 3))
 (try simp only [Act.put, List.setIfInBounds_toArray, List.set_cons_zero, List.set_cons_succ])
 have H := HC8.out
 clear HC8
 have HC14 := zA H
 clear H
 have hnb15 := NB579_580.out
 have hnc15 := NB580_579.out
 have hcz16_0 : w11.cell? ⟨gb579, 0, none⟩ = some (.int .i64 a0_0) := (blk_cell BK579.out 0).trans rfl
 have hcz16_1 : w11.cell? ⟨gb579, 1, none⟩ = some (.int .i64 a0_1) := (blk_cell BK579.out 1).trans rfl
 have hcz16_2 : w11.cell? ⟨gb579, 2, none⟩ = some (.int .i64 a0_2) := (blk_cell BK579.out 2).trans rfl
 have hcz16_3 : w11.cell? ⟨gb579, 3, none⟩ = some (.slice A0_3 l0_3.length c0_3) := (blk_cell BK579.out 3).trans rfl
 have hfz16_0 := blk_frozen BK579.out 0
 have hfz16_1 := blk_frozen BK579.out 1
 have hfz16_2 := blk_frozen BK579.out 2
 have hfz16_3 := blk_frozen BK579.out 3
 go_upto_region 3 with (fail)
 have H := HC14.out
 clear HC14
 simp only [Option.some.injEq, Prod.mk.injEq] at H
 obtain ⟨rfl, rfl, rfl, rfl⟩ := H
 have hnb17 := NB579_580.out
 have hnc17 := NB580_579.out
 have hcz18_0 : w11.cell? ⟨gb579, 0, none⟩ = some (.int .i64 a0_0) := (blk_cell BK579.out 0).trans rfl
 have hcz18_1 : w11.cell? ⟨gb579, 1, none⟩ = some (.int .i64 a0_1) := (blk_cell BK579.out 1).trans rfl
 have hcz18_2 : w11.cell? ⟨gb579, 2, none⟩ = some (.int .i64 a0_2) := (blk_cell BK579.out 2).trans rfl
 have hcz18_3 : w11.cell? ⟨gb579, 3, none⟩ = some (.slice A0_3 l0_3.length c0_3) := (blk_cell BK579.out 3).trans rfl
 have hfz18_0 := blk_frozen BK579.out 0
 have hfz18_1 := blk_frozen BK579.out 1
 have hfz18_2 := blk_frozen BK579.out 2
 have hfz18_3 := blk_frozen BK579.out 3
 have hcz19_0 : w11.cell? ⟨gb580, 0, none⟩ = some (.int .i64 0) := (blk_cell BK580.out 0).trans rfl
 have hcz19_1 : w11.cell? ⟨gb580, 1, none⟩ = some (.int .i64 0) := (blk_cell BK580.out 1).trans rfl
 have hcz19_2 : w11.cell? ⟨gb580, 2, none⟩ = some (.int .i64 0) := (blk_cell BK580.out 2).trans rfl
 have hcz19_3 : w11.cell? ⟨gb580, 3, none⟩ = some (.slice none 0 0) := (blk_cell BK580.out 3).trans rfl
 have hfz19_0 := blk_frozen BK580.out 0
 have hfz19_1 := blk_frozen BK580.out 1
 have hfz19_2 := blk_frozen BK580.out 2
 have hfz19_3 := blk_frozen BK580.out 3
 go_wp2
 refine bodyPost_ret (results_cell_row rfl _ _ gb580 54 #[.int .i64 a0_0, .int .i64 a0_1, .int .i64 a1, .slice Ao12 t581.length co12] (0, 0) _ rfl (by (with_reducible repeat (first | refine blk_drewN ?_ _ | refine blk_drew ?_ | refine blk_alloc ?_ _)); refine blk_put (cs := #[.int .i64 a0_0, .int .i64 a0_1, .int .i64 a1, .slice none 0 0]) ?_ 3 _ rfl; (with_reducible repeat (first | refine blk_drewN ?_ _ | refine blk_drew ?_ | refine blk_alloc ?_ _)); refine blk_put (cs := #[.int .i64 a0_0, .int .i64 a0_1, .int .i64 0, .slice none 0 0]) ?_ 2 _ rfl; (with_reducible repeat (first | refine blk_drewN ?_ _ | refine blk_drew ?_ | refine blk_alloc ?_ _)); refine blk_put (cs := #[.int .i64 a0_0, .int .i64 0, .int .i64 0, .slice none 0 0]) ?_ 1 _ rfl; (with_reducible repeat (first | refine blk_drewN ?_ _ | refine blk_drew ?_ | refine blk_alloc ?_ _)); refine blk_put (cs := #[.int .i64 0, .int .i64 0, .int .i64 0, .slice none 0 0]) ?_ 0 _ rfl; (with_reducible repeat (first | refine blk_drewN ?_ _ | refine blk_drew ?_ | refine blk_alloc ?_ _)); refine blk_far ?_ NB580_579.out _; (with_reducible repeat (first | refine blk_drewN ?_ _ | refine blk_drew ?_ | refine blk_alloc ?_ _)); refine blk_far ?_ NB580_579.out _; (with_reducible repeat (first | refine blk_drewN ?_ _ | refine blk_drew ?_ | refine blk_alloc ?_ _)); exact BK580.out) Try.underlying54 rfl (by kernel_rfl)) rfl ?_
 exact ⟨_, zq5, (by (with_reducible repeat (first | apply Kd.R_alloc | apply Kd.R_drewN | apply Kd.R_drew)); exact Kd.R_mono (Kd.R_far (p := ⟨gb580, 3, none⟩) (Kd.R_far (p := ⟨gb580, 2, none⟩) (Kd.R_far (p := ⟨gb580, 1, none⟩) (Kd.R_far (p := ⟨gb580, 0, none⟩) (Kd.R_far (p := ⟨gb579, 2, none⟩) (Kd.R_far (p := ⟨gb579, 3, none⟩) (Kd.R_types (Kd.R_types HO583.out BK579.out zq40) BK580.out zq40) (fun _ hk => hk.1.2) (.slice Ao12 t581.length co12)) (fun _ hk => hk.1.2) (.int .i64 a1)) (fun _ hk => hk.2) (.int .i64 a0_0)) (fun _ hk => hk.2) (.int .i64 a0_1)) (fun _ hk => hk.2) (.int .i64 a1)) (fun _ hk => hk.2) (.slice Ao12 t581.length co12)) (fun _ hk => trivial)), zq153⟩

/-! ### impl_SameFrame: function 81 -/
def impl_SameFrame.f (a0_0 : Int) (a0_1 : Int) (a0_2 : Int) (l0_3 : List Int) (a1_0 : Int) (a1_1 : Int) (a1_2 : Int) (l1_3 : List Int) : Option (Bool) := if a0_0 = a1_0 then (if a0_1 = a1_1 then (if a0_2 = a1_2 then (some ((strOfNums l0_3).toList == (strOfNums l1_3).toList)) else (some false)) else (some false)) else (some false)
set_option maxHeartbeats 8000000 in
set_option maxRecDepth 100000 in
theorem impl_SameFrame.calls (a0_0 : Int) (a0_1 : Int) (a0_2 : Int) (A0_3 : Option Addr) (c0_3 : Nat) (l0_3 : List Int) (a1_0 : Int) (a1_1 : Int) (a1_2 : Int) (A1_3 : Option Addr) (c1_3 : Nat) (l1_3 : List Int) (r : Bool) (w : World) (hr0_3 : Kd.C (Kd.int .u8) w A0_3 l0_3.length l0_3) (hc0_3 : l0_3.length ≤ c0_3) (hr1_3 : Kd.C (Kd.int .u8) w A1_3 l1_3.length l1_3) (hc1_3 : l1_3.length ≤ c1_3) (h : impl_SameFrame.f a0_0 a0_1 a0_2 l0_3 a1_0 a1_1 a1_2 l1_3 = some r) :
  Calls Try.prog 81 #[.agg #[.int .i64 a0_0, .int .i64 a0_1, .int .i64 a0_2, .slice A0_3 l0_3.length c0_3], .agg #[.int .i64 a1_0, .int .i64 a1_1, .int .i64 a1_2, .slice A1_3 l1_3.length c1_3]] w fun e w' => e = .returned (.bool r) ∧ Below w.heap.size w w' := by
 have hu54 := Try.underlying54
 have HR0_3 := zA hr0_3
 have HC0_3 := zA hc0_3
 clear hr0_3 hc0_3
 have HR1_3 := zA hr1_3
 have HC1_3 := zA hc1_3
 clear hr1_3 hc1_3
 have HB := zA (Below.refl w.heap.size w)
 unfold impl_SameFrame.f at h
 have H := h
 clear h
 have HC3 := zA H
 clear H
 go_enter Try.func81, Try.ntmps81
 go_upto_region 0 with (fail)
 have H := HC3.out
 clear HC3
 have HC4 := zA H
 clear H
 go_upto_region 1 with (first | ((with_reducible refine gate_dst (N := 2) rfl ?_); refine box_event ?hg (N := 2) ?hd (cs := #[.int .i64 a0_0, .int .i64 a0_1, .int .i64 a0_2, .slice A0_3 l0_3.length c0_3]) (t := 54) ?hr ?_; (case hd => rfl); (case hg => rfl); (case hr => first | (go_simp; done) | (go_simp; rfl)); intro gb584 hg w5 hbox hb; have BK584 := zA (hbox); have GW584 := zA ((zq18 : w.heap.size ≤ gb584)); have GE584 := zA ((zq18 : w.heap.size ≤ gb584)); replace HB := zA (below_step zq0 hb); clear hb hbox hg) | ((with_reducible refine gate_dst (N := 3) rfl ?_); refine box_event ?hg (N := 3) ?hd (cs := #[.int .i64 a1_0, .int .i64 a1_1, .int .i64 a1_2, .slice A1_3 l1_3.length c1_3]) (t := 54) ?hr ?_; (case hd => rfl); (case hg => rfl); (case hr => first | (go_simp; done) | (go_simp; rfl)); intro gb585 hg w6 hbox hb; have BK585 := zA (hbox); have GW585 := zA ((zq186 : w.heap.size ≤ gb585)); have GE585 := zA ((zq186 : w.heap.size ≤ gb585)); replace HB := zA (below_step zq159 hb); have NB584_585 := zA ((by rw [hg]; exact Nat.ne_of_lt (blk_lt (g := gb584) (o := .cells #[.int .i64 a0_0, .int .i64 a0_1, .int .i64 a0_2, .slice A0_3 l0_3.length c0_3] 54 (0, 0)) zq178) : gb584 ≠ gb585)); have NB585_584 := zA ((by rw [hg]; exact Nat.ne_of_gt (blk_lt (g := gb584) (o := .cells #[.int .i64 a0_0, .int .i64 a0_1, .int .i64 a0_2, .slice A0_3 l0_3.length c0_3] 54 (0, 0)) zq178) : gb585 ≠ gb584)); replace BK584 := zA (blk_below (g := gb584) (o := .cells #[.int .i64 a0_0, .int .i64 a0_1, .int .i64 a0_2, .slice A0_3 l0_3.length c0_3] 54 (0, 0)) zq178 hb); clear hb hbox hg))
 (try simp only [Act.put, List.setIfInBounds_toArray, List.set_cons_zero, List.set_cons_succ])
 have H := HC4.out
 clear HC4
 by_cases c7 : a0_0 = a1_0
 ·rw [if_pos c7] at H
  have c7b0 : (a0_0 == a1_0) = true := beq_iff_eq.mpr c7
  have c7b1 : (a0_0 != a1_0) = false := bne_eq_false_iff_eq.mpr c7
  clear c7
  by_cases c8 : a0_1 = a1_1
  ·rw [if_pos c8] at H
   have c8b0 : (a0_1 == a1_1) = true := beq_iff_eq.mpr c8
   have c8b1 : (a0_1 != a1_1) = false := bne_eq_false_iff_eq.mpr c8
   clear c8
   by_cases c9 : a0_2 = a1_2
   ·rw [if_pos c9] at H
    have c9b0 : (a0_2 == a1_2) = true := beq_iff_eq.mpr c9
    have c9b1 : (a0_2 != a1_2) = false := bne_eq_false_iff_eq.mpr c9
    clear c9
    obtain rfl := Option.some.inj H
    have hnb10 := NB584_585.out
    have hnc10 := NB585_584.out
    have hcz11_0 : w6.cell? ⟨gb584, 0, none⟩ = some (.int .i64 a0_0) := (blk_cell BK584.out 0).trans rfl
    have hcz11_1 : w6.cell? ⟨gb584, 1, none⟩ = some (.int .i64 a0_1) := (blk_cell BK584.out 1).trans rfl
    have hcz11_2 : w6.cell? ⟨gb584, 2, none⟩ = some (.int .i64 a0_2) := (blk_cell BK584.out 2).trans rfl
    have hcz11_3 : w6.cell? ⟨gb584, 3, none⟩ = some (.slice A0_3 l0_3.length c0_3) := (blk_cell BK584.out 3).trans rfl
    have hfz11_0 := blk_frozen BK584.out 0
    have hfz11_1 := blk_frozen BK584.out 1
    have hfz11_2 := blk_frozen BK584.out 2
    have hfz11_3 := blk_frozen BK584.out 3
    have hcz12_0 : w6.cell? ⟨gb585, 0, none⟩ = some (.int .i64 a1_0) := (blk_cell BK585.out 0).trans rfl
    have hcz12_1 : w6.cell? ⟨gb585, 1, none⟩ = some (.int .i64 a1_1) := (blk_cell BK585.out 1).trans rfl
    have hcz12_2 : w6.cell? ⟨gb585, 2, none⟩ = some (.int .i64 a1_2) := (blk_cell BK585.out 2).trans rfl
    have hcz12_3 : w6.cell? ⟨gb585, 3, none⟩ = some (.slice A1_3 l1_3.length c1_3) := (blk_cell BK585.out 3).trans rfl
    have hfz12_0 := blk_frozen BK585.out 0
    have hfz12_1 := blk_frozen BK585.out 1
    have hfz12_2 := blk_frozen BK585.out 2
    have hfz12_3 := blk_frozen BK585.out 3
    have hcv13 := Kd.C_string (P := Try.prog) (A := A0_3) (c := c0_3) Try.underlying22 Try.underlying5 Try.underlying9 (Kd.C_below HR0_3.out HB.out)
    have hcv14 := Kd.C_string (P := Try.prog) (A := A1_3) (c := c1_3) Try.underlying22 Try.underlying5 Try.underlying9 (Kd.C_below HR1_3.out HB.out)
    go_wp2
    go_ret
    exact ⟨zq5, zq114⟩
   ·rw [if_neg c9] at H
    have c9b0 : (a0_2 == a1_2) = false := beq_eq_false_iff_ne.mpr c9
    have c9b1 : (a0_2 != a1_2) = true := bne_iff_ne.mpr c9
    obtain rfl := Option.some.inj H
    have hnb15 := NB584_585.out
    have hnc15 := NB585_584.out
    have hcz16_0 : w6.cell? ⟨gb584, 0, none⟩ = some (.int .i64 a0_0) := (blk_cell BK584.out 0).trans rfl
    have hcz16_1 : w6.cell? ⟨gb584, 1, none⟩ = some (.int .i64 a0_1) := (blk_cell BK584.out 1).trans rfl
    have hcz16_2 : w6.cell? ⟨gb584, 2, none⟩ = some (.int .i64 a0_2) := (blk_cell BK584.out 2).trans rfl
    have hcz16_3 : w6.cell? ⟨gb584, 3, none⟩ = some (.slice A0_3 l0_3.length c0_3) := (blk_cell BK584.out 3).trans rfl
    have hfz16_0 := blk_frozen BK584.out 0
    have hfz16_1 := blk_frozen BK584.out 1
    have hfz16_2 := blk_frozen BK584.out 2
    have hfz16_3 := blk_frozen BK584.out 3
    have hcz17_0 : w6.cell? ⟨gb585, 0, none⟩ = some (.int .i64 a1_0) := (blk_cell BK585.out 0).trans rfl
    have hcz17_1 : w6.cell? ⟨gb585, 1, none⟩ = some (.int .i64 a1_1) := (blk_cell BK585.out 1).trans rfl
    have hcz17_2 : w6.cell? ⟨gb585, 2, none⟩ = some (.int .i64 a1_2) := (blk_cell BK585.out 2).trans rfl
    have hcz17_3 : w6.cell? ⟨gb585, 3, none⟩ = some (.slice A1_3 l1_3.length c1_3) := (blk_cell BK585.out 3).trans rfl
    have hfz17_0 := blk_frozen BK585.out 0
    have hfz17_1 := blk_frozen BK585.out 1
    have hfz17_2 := blk_frozen BK585.out 2
    have hfz17_3 := blk_frozen BK585.out 3
    go_wp2
    go_ret
    exact ⟨zq5, zq114⟩
  ·rw [if_neg c8] at H
   have c8b0 : (a0_1 == a1_1) = false := beq_eq_false_iff_ne.mpr c8
   have c8b1 : (a0_1 != a1_1) = true := bne_iff_ne.mpr c8
   obtain rfl := Option.some.inj H
   have hnb18 := NB584_585.out
   have hnc18 := NB585_584.out
   have hcz19_0 : w6.cell? ⟨gb584, 0, none⟩ = some (.int .i64 a0_0) := (blk_cell BK584.out 0).trans rfl
   have hcz19_1 : w6.cell? ⟨gb584, 1, none⟩ = some (.int .i64 a0_1) := (blk_cell BK584.out 1).trans rfl
   have hcz19_2 : w6.cell? ⟨gb584, 2, none⟩ = some (.int .i64 a0_2) := (blk_cell BK584.out 2).trans rfl
   have hcz19_3 : w6.cell? ⟨gb584, 3, none⟩ = some (.slice A0_3 l0_3.length c0_3) := (blk_cell BK584.out 3).trans rfl
   have hfz19_0 := blk_frozen BK584.out 0
   have hfz19_1 := blk_frozen BK584.out 1
   have hfz19_2 := blk_frozen BK584.out 2
   have hfz19_3 := blk_frozen BK584.out 3
   have hcz20_0 : w6.cell? ⟨gb585, 0, none⟩ = some (.int .i64 a1_0) := (blk_cell BK585.out 0).trans rfl
   have hcz20_1 : w6.cell? ⟨gb585, 1, none⟩ = some (.int .i64 a1_1) := (blk_cell BK585.out 1).trans rfl
   have hcz20_2 : w6.cell? ⟨gb585, 2, none⟩ = some (.int .i64 a1_2) := (blk_cell BK585.out 2).trans rfl
   have hcz20_3 : w6.cell? ⟨gb585, 3, none⟩ = some (.slice A1_3 l1_3.length c1_3) := (blk_cell BK585.out 3).trans rfl
   have hfz20_0 := blk_frozen BK585.out 0
   have hfz20_1 := blk_frozen BK585.out 1
   have hfz20_2 := blk_frozen BK585.out 2
   have hfz20_3 := blk_frozen BK585.out 3
   go_wp2
   go_ret
   exact ⟨zq5, zq114⟩
 ·rw [if_neg c7] at H
  have c7b0 : (a0_0 == a1_0) = false := beq_eq_false_iff_ne.mpr c7
  have c7b1 : (a0_0 != a1_0) = true := bne_iff_ne.mpr c7
  obtain rfl := Option.some.inj H
  have hnb21 := NB584_585.out
  have hnc21 := NB585_584.out
  have hcz22_0 : w6.cell? ⟨gb584, 0, none⟩ = some (.int .i64 a0_0) := (blk_cell BK584.out 0).trans rfl
  have hcz22_1 : w6.cell? ⟨gb584, 1, none⟩ = some (.int .i64 a0_1) := (blk_cell BK584.out 1).trans rfl
  have hcz22_2 : w6.cell? ⟨gb584, 2, none⟩ = some (.int .i64 a0_2) := (blk_cell BK584.out 2).trans rfl
  have hcz22_3 : w6.cell? ⟨gb584, 3, none⟩ = some (.slice A0_3 l0_3.length c0_3) := (blk_cell BK584.out 3).trans rfl
  have hfz22_0 := blk_frozen BK584.out 0
  have hfz22_1 := blk_frozen BK584.out 1
  have hfz22_2 := blk_frozen BK584.out 2
  have hfz22_3 := blk_frozen BK584.out 3
  have hcz23_0 : w6.cell? ⟨gb585, 0, none⟩ = some (.int .i64 a1_0) := (blk_cell BK585.out 0).trans rfl
  have hcz23_1 : w6.cell? ⟨gb585, 1, none⟩ = some (.int .i64 a1_1) := (blk_cell BK585.out 1).trans rfl
  have hcz23_2 : w6.cell? ⟨gb585, 2, none⟩ = some (.int .i64 a1_2) := (blk_cell BK585.out 2).trans rfl
  have hcz23_3 : w6.cell? ⟨gb585, 3, none⟩ = some (.slice A1_3 l1_3.length c1_3) := (blk_cell BK585.out 3).trans rfl
  have hfz23_0 := blk_frozen BK585.out 0
  have hfz23_1 := blk_frozen BK585.out 1
  have hfz23_2 := blk_frozen BK585.out 2
  have hfz23_3 := blk_frozen BK585.out 3
  go_wp2
  go_ret
  exact ⟨zq5, zq114⟩

end Go.Proofs.Ytkcgghgkmgbphaa.PFnFrames
