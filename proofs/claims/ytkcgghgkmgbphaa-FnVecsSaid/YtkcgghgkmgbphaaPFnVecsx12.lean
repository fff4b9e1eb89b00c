-- WRITTEN BY a turned copy of the kit's printer (wip/patch_print.py), for this claim
import Derived.Test.YtkcgghgkmgbphaaPFnVecsx0
import Derived.Test.YtkcgghgkmgbphaaPFnVecsx1
import Derived.Test.YtkcgghgkmgbphaaPFnVecsx2
import Derived.Test.YtkcgghgkmgbphaaPFnVecsx5
import Derived.Test.YtkcgghgkmgbphaaPFnVecsx8
import Derived.Test.YtkcgghgkmgbphaaPFnVecsx9
import Derived.Test.YtkcgghgkmgbphaaPFnVecsx10
import Derived.Test.YtkcgghgkmgbphaaPFnVecsx11
namespace Go.Proofs.Ytkcgghgkmgbphaa.PFnVecs
open Go.RowKit Go.Proofs.YtkcgghgkmgbphaaW.PrintWords Go.Proofs.YtkcgghgkmgbphaaW.PrintLast Go.Proofs.YtkcgghgkmgbphaaW.PrintMore
attribute [local go_sem] max2_int min2_int max_two min_two max_three min_three max_four min_four   -- for this text's walks alone
set_option linter.unusedVariables false
set_option linter.unusedSimpArgs false

attribute [local go_sem] cell_setCell_m
attribute [local go_sem high] eqA39
/-! ### spec_DrawGetVec: function 64 -/
def spec_DrawGetVec.f (k : Nat) (l0 : List Int) : Option (List Int) := (spec_l1New.f k l0).bind fun bt508 => ((spec_l7Draw.f bt508.1 bt508.2.1 bt508.2.2).bind fun bt512 => ((spec_PutVec.f k bt512.1 bt512.2.1 bt512.2.2.1 bt512.2.2.2.1 bt512.2.2.2.2.1).bind fun t519 => ((spec_l1Bend.f bt508.1 bt512.2.2.2.2.2.1 bt512.2.2.2.2.2.2 t519).bind fun bt522 => (some bt522.1))))
theorem spec_DrawGetVec.mono : ∀ a0 k, LeO (spec_DrawGetVec.f k a0) (spec_DrawGetVec.f (k + 1) a0) := by
 intro a0 k
 unfold spec_DrawGetVec.f
 repeat' first
   | (with_reducible exact spec_PutVec.mono _ _ _ _ _ _)
   | (with_reducible exact spec_l1New.mono _ _)
   | (with_reducible exact LeO.refl _)
   | (with_reducible exact LeO.none _)
   | (with_reducible refine LeO.ite ?_ ?_)
   | (with_reducible refine LeO.bind ?_ (fun _ => ?_))
   | exact spec_PutVec.mono _ _ _ _ _ _
   | exact spec_l1New.mono _ _
   | exact LeO.none _
   | refine LeO.ite ?_ ?_
   | refine LeO.bind ?_ (fun _ => ?_)
set_option maxHeartbeats 8000000 in
set_option maxRecDepth 100000 in
theorem spec_DrawGetVec.calls (k : Nat) (A0 : Option Addr) (c0 : Nat) (l0 : List Int) (r : List Int) (w : World) (hr0 : Kd.C (Kd.int .u8) w A0 l0.length l0) (hc0 : l0.length ≤ c0) (h : spec_DrawGetVec.f k l0 = some r) :
  Calls Try.prog 64 #[.slice A0 l0.length c0] w fun e w' => ∃ v0_ : Value, e = .returned (v0_) ∧ Kd.R (Kd.int .u8) 5 w' w.heap.size (fun _ => True) v0_ r ∧ Below w.heap.size w w' := by
 have HR0 := zA hr0
 have HC0 := zA hc0
 clear hr0 hc0
 have HB := zA (Below.refl w.heap.size w)
 have H : ((spec_l1New.f k l0).bind fun bt508 => ((spec_l7Draw.f bt508.1 bt508.2.1 bt508.2.2).bind fun bt512 => ((spec_PutVec.f k bt512.1 bt512.2.1 bt512.2.2.1 bt512.2.2.2.1 bt512.2.2.2.2.1).bind fun t519 => ((spec_l1Bend.f bt508.1 bt512.2.2.2.2.2.1 bt512.2.2.2.2.2.2 t519).bind fun bt522 => (some bt522.1))))) = some r := h
 clear h
 obtain ⟨⟨t508, t509, t510⟩, A2, H⟩ := zB H
 try dsimp only at H
 obtain ⟨⟨t512, t513, t514, t515, t516, t517, t518⟩, A3, H⟩ := zB H
 try dsimp only at H
 obtain ⟨t519, A4, H⟩ := zB H
 try dsimp only at H
 obtain ⟨⟨t522, t525, t526⟩, A5, H⟩ := zB H
 try dsimp only at H
 obtain rfl := Option.some.inj H
 go_enter Try.func64, Try.ntmps64
 go_wp2_with (first | ((with_reducible refine gate_callee (f := 104) rfl ?_); refine goesL_ (some 5) rfl rfl Try.func104 (by kernel_rfl) rfl #[.slice A0 l0.length c0] rfl zq1 ?_; (with_reducible refine (spec_l1New.calls k _ _ l0 t508 t509 t510 w _ ?side1 ?side2 ?side3 A2.out).mono ?_); (case side1 => repeat (first | (with_reducible first | exact HB.out | apply below_alloc | apply pw_below_drewN | apply below_drew1) | exact HB.out)); (case side2 => exact HR0.out); (case side3 => exact HC0.out); rintro e w6 ⟨g511, rfl, hi, hb, hb2⟩; refine ⟨_, rfl, ?_⟩; replace HB := zA (hb); have HI511 := zA (hi); clear hb hb2 hi) | ((with_reducible refine gate_callee (f := 149) rfl ?_); refine goesL_ (some 8) rfl rfl Try.func149 (by kernel_rfl) rfl #[.pointer (some ⟨g511, 0, none⟩)] rfl zq1 ?_; (with_reducible refine (spec_l7Draw.calls g511 t508 t509 t510 t512 t513 t514 t515 t516 t517 t518 w _ ?side1 ?side2 A3.out).mono ?_); (case side1 => repeat (first | (with_reducible first | exact HI511.out | apply IsS170.alloc | apply IsS170.drewN | apply IsS170.drew | apply IsS170.set_1 | apply IsS170.set_2) | exact HI511.out)); (case side2 => repeat (first | (with_reducible first | exact HB.out | apply below_alloc | apply pw_below_drewN | apply below_drew1 | refine below_set ?_ (IsS170.ge HI511.out)) | exact HB.out)); rintro e w7 ⟨rfl, hi, hb, hk⟩; refine ⟨_, rfl, ?_⟩; replace HB := zA (hb); replace HI511 := zA (hi); clear hb hk hi) | ((with_reducible refine gate_callee (f := 148) rfl ?_); refine goesL_ (some 9) rfl rfl Try.func148 (by kernel_rfl) rfl #[.agg #[.int .i64 t512, .int .i64 t513, .int .i64 t514, .int .i64 t515, .int .i64 t516]] rfl zq1 ?_; (with_reducible refine (spec_PutVec.calls k t512 t513 t514 t515 t516 t519 _ A4.out).mono ?_); rintro e w8 ⟨v520, rfl, ho0, hb⟩; refine ⟨_, rfl, ?_⟩; have HO521 := zA (Kd.R_lower ho0 (below_size zq135)); replace HB := zA (below_step zq135 hb); replace HI511 := zA (IsS170.below (by repeat (first | (with_reducible first | exact HI511.out | apply IsS170.alloc | apply IsS170.drewN | apply IsS170.drew | apply IsS170.set_1 | apply IsS170.set_2) | exact HI511.out)) hb); clear hb ho0; obtain ⟨Ao9, co9, eo9⟩ := Kd.R_slice HO521.out; subst eo9) | ((with_reducible refine gate_callee (f := 110) rfl ?_); refine goesL_ (some 10) rfl rfl Try.func110 (by kernel_rfl) rfl #[.pointer (some ⟨g511, 0, none⟩), .slice Ao9 t519.length co9] rfl zq1 ?_; (with_reducible refine (spec_l1Bend.calls g511 t508 t517 t518 (fun k_ => some k_ = (.slice Ao9 t519.length co9 : Value).ownBlock) (.slice Ao9 t519.length co9) t519 t522 t525 t526 w _ ?side1 ?side2 ?side3 A5.out).mono ?_); (case side1 => repeat (first | (with_reducible first | exact HI511.out | apply IsS170.alloc | apply IsS170.drewN | apply IsS170.drew | apply IsS170.set_1 | apply IsS170.set_2) | exact HI511.out)); (case side2 => repeat (first | (with_reducible first | exact HB.out | apply below_alloc | apply pw_below_drewN | apply below_drew1 | refine below_set ?_ (IsS170.ge HI511.out)) | exact HB.out)); (case side3 => exact Kd.R_tight rfl HO521.out); rintro e w10 ⟨v523, rfl, ho0, hi, hb, hkp⟩; refine ⟨_, rfl, ?_⟩; replace HI511 := zA (hi); have HO524 := zA (Kd.R_mono (ok' := fun k_ => True) ho0 (fun k_ hk_ => trivial)); replace HB := zA (hb); clear HO521; clear hb hkp ho0))
 go_ret
 exact ⟨_, by first | rfl | (simp [errW_none, errW_some] <;> rfl) | (simp [*, errW_none, errW_some] <;> rfl), by (with_reducible repeat (first | apply Kd.R_alloc | apply Kd.R_drewN | apply Kd.R_drew)); exact HO524.out, by repeat (first | (with_reducible first | exact HB.out | apply below_alloc | apply pw_below_drewN | apply below_drew1 | refine below_set ?_ (IsS170.ge HI511.out)) | exact HB.out)⟩

/-! ### laws_FnVecs: function 8 -/
def laws_FnVecs.j0 : Nat → List Int → Bool → Int → Int → Int → Int → Int → Option (Bool)
 | 0, _, _, _, _, _, _, _ => none
 | k + 1, x4, x47, x534000, x534001, x534002, x534003, x534004 => if x47 = true then (some false) else ((spec_VecOk.f x534000 x534001 x534002 x534003 x534004).bind fun t559 => (if t559 = true then ((impl_GetVec.f k x4).bind fun bt560 => (if bt560.2.2.2.2.2 = true then (if (bt560.1 == x534000 && (bt560.2.1 == x534001 && (bt560.2.2.1 == x534002 && (bt560.2.2.2.1 == x534003 && (bt560.2.2.2.2.1 == x534004))))) = true then ((impl_VecOk.f x534000 x534001 x534002 x534003 x534004).bind fun t567 => (some t567)) else (some false)) else (some false))) else (if (x4.length : Int) = 0 then ((impl_VecOk.f x534000 x534001 x534002 x534003 x534004).bind fun t568 => (some (!t568))) else (some false))))
def laws_FnVecs.f (k : Nat) (l0 : List Int) : Option (Bool) := (laws_big.f l0).bind fun t527 => (if t527 = true then (some true) else ((spec_DrawPutVec.f k l0).bind fun bt528 => ((impl_PutVec.f k bt528.1 bt528.2.1 bt528.2.2.1 bt528.2.2.2.1 bt528.2.2.2.2).bind fun t534 => ((spec_DrawGetVec.f k l0).bind fun t537 => ((impl_GetVec.f k t537).bind fun bt540 => ((spec_GetVec.f k t537).bind fun bt547 => (if (bt540.2.2.2.2.2 != bt547.2.2.2.2.2) = true then (laws_FnVecs.j0 k t534 true bt528.1 bt528.2.1 bt528.2.2.1 bt528.2.2.2.1 bt528.2.2.2.2) else (if bt540.2.2.2.2.2 = true then ((impl_VecOk.f bt540.1 bt540.2.1 bt540.2.2.1 bt540.2.2.2.1 bt540.2.2.2.2.1).bind fun t554 => (if t554 = true then ((impl_PutVec.f k bt540.1 bt540.2.1 bt540.2.2.1 bt540.2.2.2.1 bt540.2.2.2.2.1).bind fun t555 => ((laws_sameBytes.f k t555 t537).bind fun t558 => (laws_FnVecs.j0 k t534 (!t558) bt528.1 bt528.2.1 bt528.2.2.1 bt528.2.2.2.1 bt528.2.2.2.2))) else (laws_FnVecs.j0 k t534 true bt528.1 bt528.2.1 bt528.2.2.1 bt528.2.2.2.1 bt528.2.2.2.2))) else (laws_FnVecs.j0 k t534 false bt528.1 bt528.2.1 bt528.2.2.1 bt528.2.2.2.1 bt528.2.2.2.2)))))))))
theorem laws_FnVecs.mono_l : ∀ k, (∀ y0 y1 y2 y3 y4 y5 y6, LeO (laws_FnVecs.j0 k y0 y1 y2 y3 y4 y5 y6) (laws_FnVecs.j0 (k + 1) y0 y1 y2 y3 y4 y5 y6))
 | 0 => fun _ _ _ _ _ _ _ r h => by simp [laws_FnVecs.j0] at h
 | k + 1 => by
  have ih0 := laws_FnVecs.mono_l k
  ·intro y0 y1 y2 y3 y4 y5 y6
   unfold laws_FnVecs.j0
   repeat' first
   | (with_reducible exact ih0 _ _ _ _ _ _ _)
   | (with_reducible exact impl_GetVec.mono _ _)
   | (with_reducible exact impl_PutVec.mono _ _ _ _ _ _)
   | (with_reducible exact laws_sameBytes.mono _ _ _)
   | (with_reducible exact spec_DrawGetVec.mono _ _)
   | (with_reducible exact spec_DrawPutVec.mono _ _)
   | (with_reducible exact spec_GetVec.mono _ _)
   | (with_reducible exact LeO.refl _)
   | (with_reducible exact LeO.none _)
   | (with_reducible refine LeO.ite ?_ ?_)
   | (with_reducible refine LeO.bind ?_ (fun _ => ?_))
   | exact ih0 _ _ _ _ _ _ _
   | exact impl_GetVec.mono _ _
   | exact impl_PutVec.mono _ _ _ _ _ _
   | exact laws_sameBytes.mono _ _ _
   | exact spec_DrawGetVec.mono _ _
   | exact spec_DrawPutVec.mono _ _
   | exact spec_GetVec.mono _ _
   | exact LeO.none _
   | refine LeO.ite ?_ ?_
   | refine LeO.bind ?_ (fun _ => ?_)
theorem laws_FnVecs.mono : ∀ a0 k, LeO (laws_FnVecs.f k a0) (laws_FnVecs.f (k + 1) a0) := by
 intro a0 k
 have ih0 := laws_FnVecs.mono_l k
 unfold laws_FnVecs.f
 repeat' first
   | (with_reducible exact ih0 _ _ _ _ _ _ _)
   | (with_reducible exact impl_GetVec.mono _ _)
   | (with_reducible exact impl_PutVec.mono _ _ _ _ _ _)
   | (with_reducible exact laws_sameBytes.mono _ _ _)
   | (with_reducible exact spec_DrawGetVec.mono _ _)
   | (with_reducible exact spec_DrawPutVec.mono _ _)
   | (with_reducible exact spec_GetVec.mono _ _)
   | (with_reducible exact LeO.refl _)
   | (with_reducible exact LeO.none _)
   | (with_reducible refine LeO.ite ?_ ?_)
   | (with_reducible refine LeO.bind ?_ (fun _ => ?_))
   | exact ih0 _ _ _ _ _ _ _
   | exact impl_GetVec.mono _ _
   | exact impl_PutVec.mono _ _ _ _ _ _
   | exact laws_sameBytes.mono _ _ _
   | exact spec_DrawGetVec.mono _ _
   | exact spec_DrawPutVec.mono _ _
   | exact spec_GetVec.mono _ _
   | exact LeO.none _
   | refine LeO.ite ?_ ?_
   | refine LeO.bind ?_ (fun _ => ?_)
set_option maxHeartbeats 8000000 in
set_option maxRecDepth 100000 in
theorem laws_FnVecs.calls (k : Nat) (A0 : Option Addr) (c0 : Nat) (l0 : List Int) (r : Bool) (w : World) (hr0 : Kd.C (Kd.int .u8) w A0 l0.length l0) (hc0 : l0.length ≤ c0) (h : laws_FnVecs.f k l0 = some r) :
  Calls Try.prog 8 #[.slice A0 l0.length c0] w fun e w' => e = .returned (.bool r) ∧ Below w.heap.size w w' := by
 have hu39 := Try.underlying39
 have HR0 := zA hr0
 have HC0 := zA hc0
 clear hr0 hc0
 have HB := zA (Below.refl w.heap.size w)
 have H : ((laws_big.f l0).bind fun t527 => (if t527 = true then (some true) else ((spec_DrawPutVec.f k l0).bind fun bt528 => ((impl_PutVec.f k bt528.1 bt528.2.1 bt528.2.2.1 bt528.2.2.2.1 bt528.2.2.2.2).bind fun t534 => ((spec_DrawGetVec.f k l0).bind fun t537 => ((impl_GetVec.f k t537).bind fun bt540 => ((spec_GetVec.f k t537).bind fun bt547 => (if (bt540.2.2.2.2.2 != bt547.2.2.2.2.2) = true then (laws_FnVecs.j0 k t534 true bt528.1 bt528.2.1 bt528.2.2.1 bt528.2.2.2.1 bt528.2.2.2.2) else (if bt540.2.2.2.2.2 = true then ((impl_VecOk.f bt540.1 bt540.2.1 bt540.2.2.1 bt540.2.2.2.1 bt540.2.2.2.2.1).bind fun t554 => (if t554 = true then ((impl_PutVec.f k bt540.1 bt540.2.1 bt540.2.2.1 bt540.2.2.2.1 bt540.2.2.2.2.1).bind fun t555 => ((laws_sameBytes.f k t555 t537).bind fun t558 => (laws_FnVecs.j0 k t534 (!t558) bt528.1 bt528.2.1 bt528.2.2.1 bt528.2.2.2.1 bt528.2.2.2.2))) else (laws_FnVecs.j0 k t534 true bt528.1 bt528.2.1 bt528.2.2.1 bt528.2.2.2.1 bt528.2.2.2.2))) else (laws_FnVecs.j0 k t534 false bt528.1 bt528.2.1 bt528.2.2.1 bt528.2.2.2.1 bt528.2.2.2.2)))))))))) = some r := h
 clear h
 obtain ⟨t527, A2, H⟩ := zB H
 try dsimp only at H
 by_cases c3 : t527 = true
 ·subst c3
  rw [if_pos rfl] at H
  obtain rfl := Option.some.inj H
  go_enter Try.func8, Try.ntmps8
  go_wp2_with (first | ((with_reducible refine gate_callee (f := 18) rfl ?_); refine goesL_ (some 13) rfl rfl Try.func18 (by kernel_rfl) rfl #[.slice A0 l0.length c0] rfl zq1 ?_; (with_reducible refine (laws_big.calls _ _ l0 true _ ?side1 ?side2 A2.out).mono ?_); (case side1 => repeat (first | exact HR0.out | (with_reducible refine Kd.C_alloc ?_ _) | (with_reducible refine Kd.C_drewN ?_ _) | (with_reducible refine Kd.C_drew ?_))); (case side2 => exact HC0.out); rintro e w' ⟨rfl, ⟨nd, rfl⟩⟩; refine ⟨_, rfl, ?_⟩))
  go_ret
  exact ⟨by first | rfl | (simp [errW_none, errW_some] <;> rfl) | (simp [*, errW_none, errW_some] <;> rfl), by repeat (first | (with_reducible first | exact HB.out | apply below_alloc | apply pw_below_drewN | apply below_drew1) | exact HB.out)⟩
 ·replace c3 := Bool.eq_false_iff.mpr c3
  subst c3
  rw [if_neg zF] at H
  obtain ⟨⟨t528, t529, t530, t531, t532⟩, A4, H⟩ := zB H
  try dsimp only at H
  obtain ⟨t534, A5, H⟩ := zB H
  try dsimp only at H
  obtain ⟨t537, A6, H⟩ := zB H
  try dsimp only at H
  obtain ⟨⟨t540, t541, t542, t543, t544, t545⟩, A7, H⟩ := zB H
  try dsimp only at H
  obtain ⟨⟨t547, t548, t549, t550, t551, t552⟩, A8, H⟩ := zB H
  try dsimp only at H
  have HC9 := zA H
  clear H
  go_enter Try.func8, Try.ntmps8
  go_upto_region 8 with (first | ((with_reducible refine gate_callee (f := 18) rfl ?_); refine goesL_ (some 13) rfl rfl Try.func18 (by kernel_rfl) rfl #[.slice A0 l0.length c0] rfl zq1 ?_; (with_reducible refine (laws_big.calls _ _ l0 false _ ?side1 ?side2 A2.out).mono ?_); (case side1 => repeat (first | exact HR0.out | (with_reducible refine Kd.C_alloc ?_ _) | (with_reducible refine Kd.C_drewN ?_ _) | (with_reducible refine Kd.C_drew ?_))); (case side2 => exact HC0.out); rintro e w' ⟨rfl, ⟨nd, rfl⟩⟩; refine ⟨_, rfl, ?_⟩) | ((with_reducible refine gate_callee (f := 62) rfl ?_); refine goesL_ (some 15) rfl rfl Try.func62 (by kernel_rfl) rfl #[.slice A0 l0.length c0] rfl zq1 ?_; (with_reducible refine (spec_DrawPutVec.calls k _ _ l0 t528 t529 t530 t531 t532 _ ?side1 ?side2 A4.out).mono ?_); (case side1 => repeat (first | exact HR0.out | (with_reducible refine Kd.C_alloc ?_ _) | (with_reducible refine Kd.C_drewN ?_ _) | (with_reducible refine Kd.C_drew ?_))); (case side2 => exact HC0.out); rintro e w10 ⟨rfl, hb⟩; refine ⟨_, rfl, ?_⟩; replace HB := zA (below_step zq0 hb); clear hb) | ((with_reducible refine gate_dst (N := 3) rfl ?_); refine box_event ?hg (N := 3) ?hd (cs := #[.int .i64 0, .int .i64 0, .int .i64 0, .int .i64 0, .int .i64 0]) (t := 39) ?hr ?_; (case hd => rfl); (case hg => rfl); (case hr => first | (go_simp; done) | (go_simp; rfl)); intro gb533 hg w11 hbox hb; have BK533 := zA (hbox); have GW533 := zA ((zq3 : w.heap.size ≤ gb533)); have GE533 := zA ((zq3 : w.heap.size ≤ gb533)); replace HB := zA (below_step zq0 hb); clear hb hbox hg; have hcz12_0 : w11.cell? ⟨gb533, 0, none⟩ = some (.int .i64 0) := (blk_cell BK533.out 0).trans rfl; have hcz12_1 : w11.cell? ⟨gb533, 1, none⟩ = some (.int .i64 0) := (blk_cell BK533.out 1).trans rfl; have hcz12_2 : w11.cell? ⟨gb533, 2, none⟩ = some (.int .i64 0) := (blk_cell BK533.out 2).trans rfl; have hcz12_3 : w11.cell? ⟨gb533, 3, none⟩ = some (.int .i64 0) := (blk_cell BK533.out 3).trans rfl; have hcz12_4 : w11.cell? ⟨gb533, 4, none⟩ = some (.int .i64 0) := (blk_cell BK533.out 4).trans rfl; have hfz12_0 := blk_frozen BK533.out 0; have hfz12_1 := blk_frozen BK533.out 1; have hfz12_2 := blk_frozen BK533.out 2; have hfz12_3 := blk_frozen BK533.out 3; have hfz12_4 := blk_frozen BK533.out 4) | ((with_reducible refine gate_callee (f := 63) rfl ?_); refine goesL_ (some 17) rfl rfl Try.func63 (by kernel_rfl) rfl #[.agg #[.int .i64 t528, .int .i64 t529, .int .i64 t530, .int .i64 t531, .int .i64 t532]] rfl zq1 ?_; (with_reducible refine (impl_PutVec.calls k t528 t529 t530 t531 t532 t534 _ A5.out).mono ?_); rintro e w13 ⟨v535, rfl, ho0, hb⟩; refine ⟨_, rfl, ?_⟩; have HO536 := zA (Kd.R_lower ho0 (below_size zq51)); replace BK533 := zA (blk_below (g := gb533) (o := .cells #[.int .i64 t528, .int .i64 t529, .int .i64 t530, .int .i64 t531, .int .i64 t532] 39 (0, 0)) (by (with_reducible repeat (first | refine blk_drewN ?_ _ | refine blk_drew ?_ | refine blk_alloc ?_ _)); refine blk_put (cs := #[.int .i64 t528, .int .i64 t529, .int .i64 t530, .int .i64 t531, .int .i64 0]) ?_ 4 _ rfl; (with_reducible repeat (first | refine blk_drewN ?_ _ | refine blk_drew ?_ | refine blk_alloc ?_ _)); refine blk_put (cs := #[.int .i64 t528, .int .i64 t529, .int .i64 t530, .int .i64 0, .int .i64 0]) ?_ 3 _ rfl; (with_reducible repeat (first | refine blk_drewN ?_ _ | refine blk_drew ?_ | refine blk_alloc ?_ _)); refine blk_put (cs := #[.int .i64 t528, .int .i64 t529, .int .i64 0, .int .i64 0, .int .i64 0]) ?_ 2 _ rfl; (with_reducible repeat (first | refine blk_drewN ?_ _ | refine blk_drew ?_ | refine blk_alloc ?_ _)); refine blk_put (cs := #[.int .i64 t528, .int .i64 0, .int .i64 0, .int .i64 0, .int .i64 0]) ?_ 1 _ rfl; (with_reducible repeat (first | refine blk_drewN ?_ _ | refine blk_drew ?_ | refine blk_alloc ?_ _)); refine blk_put (cs := #[.int .i64 0, .int .i64 0, .int .i64 0, .int .i64 0, .int .i64 0]) ?_ 0 _ rfl; (with_reducible repeat (first | refine blk_drewN ?_ _ | refine blk_drew ?_ | refine blk_alloc ?_ _)); exact BK533.out) hb); replace HB := zA (below_step zq51 hb); clear hb ho0) | ((with_reducible refine gate_callee (f := 64) rfl ?_); refine goesL_ (some 19) rfl rfl Try.func64 (by kernel_rfl) rfl #[.slice A0 l0.length c0] rfl zq1 ?_; (with_reducible refine (spec_DrawGetVec.calls k _ _ l0 t537 _ ?side1 ?side2 A6.out).mono ?_); (case side1 => repeat (first | exact (Kd.C_below HR0.out HB.out) | (with_reducible refine Kd.C_alloc ?_ _) | (with_reducible refine Kd.C_drewN ?_ _) | (with_reducible refine Kd.C_drew ?_))); (case side2 => exact HC0.out); rintro e w14 ⟨v538, rfl, ho0, hb⟩; refine ⟨_, rfl, ?_⟩; have HO539 := zA (Kd.R_lower (Kd.R_new' ho0 (Kd.R_lt zq92)) (below_size zq51)); replace HO536 := zA (Kd.R_elder' zq92 (Kd.R_base ho0) hb); replace BK533 := zA (blk_below (g := gb533) (o := .cells #[.int .i64 t528, .int .i64 t529, .int .i64 t530, .int .i64 t531, .int .i64 t532] 39 (0, 0)) zq15 hb); replace HB := zA (below_step zq51 hb); clear hb ho0; obtain ⟨Ao15, co15, eo15⟩ := Kd.R_slice HO539.out; subst eo15) | ((with_reducible refine gate_callee (f := 33) rfl ?_); refine goesL_ (some 22) rfl rfl Try.func33 (by kernel_rfl) rfl #[.slice Ao15 t537.length co15] rfl zq1 ?_; (with_reducible refine (impl_GetVec.calls k _ _ t537 t540 t541 t542 t543 t544 t545 _ ?side1 ?side2 A7.out).mono ?_); (case side1 => repeat (first | exact (Kd.R_reads' HO539.out).2.2 | (with_reducible refine Kd.C_alloc ?_ _) | (with_reducible refine Kd.C_drewN ?_ _) | (with_reducible refine Kd.C_drew ?_))); (case side2 => exact (Kd.R_reads' HO539.out).2.1); rintro e w16 ⟨rfl, hb⟩; refine ⟨_, rfl, ?_⟩; replace HO536 := zA (Kd.R_below zq92 hb); replace HO539 := zA (Kd.R_below zq110 hb); replace BK533 := zA (blk_below (g := gb533) (o := .cells #[.int .i64 t528, .int .i64 t529, .int .i64 t530, .int .i64 t531, .int .i64 t532] 39 (0, 0)) zq15 hb); replace HB := zA (below_step zq51 hb); clear hb) | ((with_reducible refine gate_dst (N := 6) rfl ?_); refine box_event ?hg (N := 6) ?hd (cs := #[.int .i64 0, .int .i64 0, .int .i64 0, .int .i64 0, .int .i64 0]) (t := 39) ?hr ?_; (case hd => rfl); (case hg => rfl); (case hr => first | (go_simp; done) | (go_simp; rfl)); intro gb546 hg w17 hbox hb; replace HO536 := zA (Kd.R_below zq92 hb); replace HO539 := zA (Kd.R_below zq110 hb); have BK546 := zA (hbox); have GW546 := zA ((zq134 : w.heap.size ≤ gb546)); have GE546 := zA ((zq134 : w.heap.size ≤ gb546)); replace HB := zA (below_step zq51 hb); have NB533_546 := zA ((zq53 : gb533 ≠ gb546)); have NB546_533 := zA ((zq54 : gb546 ≠ gb533)); replace BK533 := zA (blk_below (g := gb533) (o := .cells #[.int .i64 t528, .int .i64 t529, .int .i64 t530, .int .i64 t531, .int .i64 t532] 39 (0, 0)) zq15 hb); clear hb hbox hg; have hnb18 := NB546_533.out; have hnc18 := NB533_546.out; have hcz19_0 : w17.cell? ⟨gb546, 0, none⟩ = some (.int .i64 0) := (blk_cell BK546.out 0).trans rfl; have hcz19_1 : w17.cell? ⟨gb546, 1, none⟩ = some (.int .i64 0) := (blk_cell BK546.out 1).trans rfl; have hcz19_2 : w17.cell? ⟨gb546, 2, none⟩ = some (.int .i64 0) := (blk_cell BK546.out 2).trans rfl; have hcz19_3 : w17.cell? ⟨gb546, 3, none⟩ = some (.int .i64 0) := (blk_cell BK546.out 3).trans rfl; have hcz19_4 : w17.cell? ⟨gb546, 4, none⟩ = some (.int .i64 0) := (blk_cell BK546.out 4).trans rfl; have hfz19_0 := blk_frozen BK546.out 0; have hfz19_1 := blk_frozen BK546.out 1; have hfz19_2 := blk_frozen BK546.out 2; have hfz19_3 := blk_frozen BK546.out 3; have hfz19_4 := blk_frozen BK546.out 4) | ((with_reducible refine gate_callee (f := 31) rfl ?_); refine goesL_ (some 27) rfl rfl Try.func31 (by kernel_rfl) rfl #[.slice Ao15 t537.length co15] rfl zq1 ?_; (with_reducible refine (spec_GetVec.calls k _ _ t537 t547 t548 t549 t550 t551 t552 _ ?side1 ?side2 A8.out).mono ?_); (case side1 => refine (Kd.R_reads' (e := 5) (base := w.heap.size) (ok := fun k_ => (True ∧ some k_ ≠ (v535 : Value).ownBlock)) (n := t537.length) (c := co15) ?_).2.2; exact zq99); (case side2 => exact (Kd.R_reads' HO539.out).2.1); rintro e w20 ⟨rfl, hb⟩; refine ⟨_, rfl, ?_⟩; replace HO536 := zA (Kd.R_below (by (with_reducible repeat (first | apply Kd.R_alloc | apply Kd.R_drewN | apply Kd.R_drew)); exact (Kd.R_mono (Kd.R_far (p := ⟨gb546, 4, none⟩) (Kd.R_far (p := ⟨gb546, 3, none⟩) (Kd.R_far (p := ⟨gb546, 2, none⟩) (Kd.R_far (p := ⟨gb546, 1, none⟩) (Kd.R_far (p := ⟨gb546, 0, none⟩) (Kd.R_types HO536.out BK546.out zq55) (fun _ hk => hk.2) (.int .i64 t540)) (fun _ hk => hk.2) (.int .i64 t541)) (fun _ hk => hk.2) (.int .i64 t542)) (fun _ hk => hk.2) (.int .i64 t543)) (fun _ hk => hk.2) (.int .i64 t544)) (fun _ h_ => h_.1))) hb); replace HO539 := zA (Kd.R_below zq99 hb); replace BK533 := zA (blk_below (g := gb533) (o := .cells #[.int .i64 t528, .int .i64 t529, .int .i64 t530, .int .i64 t531, .int .i64 t532] 39 (0, 0)) (by (with_reducible repeat (first | refine blk_drewN ?_ _ | refine blk_drew ?_ | refine blk_alloc ?_ _)); refine blk_far ?_ NB533_546.out _; (with_reducible repeat (first | refine blk_drewN ?_ _ | refine blk_drew ?_ | refine blk_alloc ?_ _)); refine blk_far ?_ NB533_546.out _; (with_reducible repeat (first | refine blk_drewN ?_ _ | refine blk_drew ?_ | refine blk_alloc ?_ _)); refine blk_far ?_ NB533_546.out _; (with_reducible repeat (first | refine blk_drewN ?_ _ | refine blk_drew ?_ | refine blk_alloc ?_ _)); refine blk_far ?_ NB533_546.out _; (with_reducible repeat (first | refine blk_drewN ?_ _ | refine blk_drew ?_ | refine blk_alloc ?_ _)); refine blk_far ?_ NB533_546.out _; (with_reducible repeat (first | refine blk_drewN ?_ _ | refine blk_drew ?_ | refine blk_alloc ?_ _)); exact BK533.out) hb); replace BK546 := zA (blk_below (g := gb546) (o := .cells #[.int .i64 t540, .int .i64 t541, .int .i64 t542, .int .i64 t543, .int .i64 t544] 39 (0, 0)) (by (with_reducible repeat (first | refine blk_drewN ?_ _ | refine blk_drew ?_ | refine blk_alloc ?_ _)); refine blk_put (cs := #[.int .i64 t540, .int .i64 t541, .int .i64 t542, .int .i64 t543, .int .i64 0]) ?_ 4 _ rfl; (with_reducible repeat (first | refine blk_drewN ?_ _ | refine blk_drew ?_ | refine blk_alloc ?_ _)); refine blk_put (cs := #[.int .i64 t540, .int .i64 t541, .int .i64 t542, .int .i64 0, .int .i64 0]) ?_ 3 _ rfl; (with_reducible repeat (first | refine blk_drewN ?_ _ | refine blk_drew ?_ | refine blk_alloc ?_ _)); refine blk_put (cs := #[.int .i64 t540, .int .i64 t541, .int .i64 0, .int .i64 0, .int .i64 0]) ?_ 2 _ rfl; (with_reducible repeat (first | refine blk_drewN ?_ _ | refine blk_drew ?_ | refine blk_alloc ?_ _)); refine blk_put (cs := #[.int .i64 t540, .int .i64 0, .int .i64 0, .int .i64 0, .int .i64 0]) ?_ 1 _ rfl; (with_reducible repeat (first | refine blk_drewN ?_ _ | refine blk_drew ?_ | refine blk_alloc ?_ _)); refine blk_put (cs := #[.int .i64 0, .int .i64 0, .int .i64 0, .int .i64 0, .int .i64 0]) ?_ 0 _ rfl; (with_reducible repeat (first | refine blk_drewN ?_ _ | refine blk_drew ?_ | refine blk_alloc ?_ _)); exact BK546.out) hb); replace HB := zA (below_step zq96 hb); clear hb) | ((with_reducible refine gate_dst (N := 8) rfl ?_); refine box_event ?hg (N := 8) ?hd (cs := #[.int .i64 0, .int .i64 0, .int .i64 0, .int .i64 0, .int .i64 0]) (t := 39) ?hr ?_; (case hd => rfl); (case hg => rfl); (case hr => first | (go_simp; done) | (go_simp; rfl)); intro gb553 hg w21 hbox hb; replace HO536 := zA (Kd.R_below zq92 hb); replace HO539 := zA (Kd.R_below zq110 hb); have BK553 := zA (hbox); have GW553 := zA ((zq127 : w.heap.size ≤ gb553)); have GE553 := zA ((zq127 : w.heap.size ≤ gb553)); replace HB := zA (below_step zq96 hb); have NB533_553 := zA ((zq53 : gb533 ≠ gb553)); have NB553_533 := zA ((zq54 : gb553 ≠ gb533)); replace BK533 := zA (blk_below (g := gb533) (o := .cells #[.int .i64 t528, .int .i64 t529, .int .i64 t530, .int .i64 t531, .int .i64 t532] 39 (0, 0)) zq15 hb); have NB546_553 := zA ((zq69 : gb546 ≠ gb553)); have NB553_546 := zA ((zq70 : gb553 ≠ gb546)); replace BK546 := zA (blk_below (g := gb546) (o := .cells #[.int .i64 t540, .int .i64 t541, .int .i64 t542, .int .i64 t543, .int .i64 t544] 39 (0, 0)) zq18 hb); clear hb hbox hg; have hnb22 := NB553_533.out; have hnc22 := NB533_553.out; have hnb23 := NB553_546.out; have hnc23 := NB546_553.out; have hcz24_0 : w21.cell? ⟨gb553, 0, none⟩ = some (.int .i64 0) := (blk_cell BK553.out 0).trans rfl; have hcz24_1 : w21.cell? ⟨gb553, 1, none⟩ = some (.int .i64 0) := (blk_cell BK553.out 1).trans rfl; have hcz24_2 : w21.cell? ⟨gb553, 2, none⟩ = some (.int .i64 0) := (blk_cell BK553.out 2).trans rfl; have hcz24_3 : w21.cell? ⟨gb553, 3, none⟩ = some (.int .i64 0) := (blk_cell BK553.out 3).trans rfl; have hcz24_4 : w21.cell? ⟨gb553, 4, none⟩ = some (.int .i64 0) := (blk_cell BK553.out 4).trans rfl; have hfz24_0 := blk_frozen BK553.out 0; have hfz24_1 := blk_frozen BK553.out 1; have hfz24_2 := blk_frozen BK553.out 2; have hfz24_3 := blk_frozen BK553.out 3; have hfz24_4 := blk_frozen BK553.out 4))
  (try simp only [Act.put, List.setIfInBounds_toArray, List.set_cons_zero, List.set_cons_succ])
  go_cut [47] (fun v47 wc => ∃ (kq : Nat) (x47_8 : Bool), v47 = .bool x47_8 ∧ Aside0 (laws_FnVecs.j0 kq t534 x47_8 t528 t529 t530 t531 t532 = some r) ∧ Aside0 (kq ≤ k) ∧ Aside0 (Kd.R (Kd.int .u8) 5 wc w.heap.size (fun _ => True) v535 t534) ∧ Aside0 (wc.heap[gb533]? = some (.cells #[.int .i64 t528, .int .i64 t529, .int .i64 t530, .int .i64 t531, .int .i64 t532] 39 (0, 0))) ∧ Aside0 (wc.heap[gb546]? = some (.cells #[.int .i64 t540, .int .i64 t541, .int .i64 t542, .int .i64 t543, .int .i64 t544] 39 (0, 0))) ∧ Aside0 (wc.heap[gb553]? = some (.cells #[.int .i64 t547, .int .i64 t548, .int .i64 t549, .int .i64 t550, .int .i64 t551] 39 (0, 0))) ∧ Aside0 (Below w.heap.size w wc))
  case first =>
   have H := HC9.out
   clear HC9
   by_cases c25 : (t545 != t552) = true
   ·rw [if_pos c25] at H
    have c25b0 : (t545 != t552) = true := c25
    (try (have c25b1 : decide (t545 = t552) = false := by simpa using c25))
    (try (have c25b2 : (t545 == t552) = false := by simpa using c25))
    (try (have c25b3 : ¬ (t545 = t552) := by simpa using c25))
    clear c25
    (first | rw [c25b0] | (simp only [i64_w, i32_w]; rw [c25b0]) | skip)
    have H' := zA H
    clear H
    go_wp2
    go_meet
    case rel => exact ⟨_, (true), zq33, H', ⟨by first | omega | exact Nat.le_refl _⟩, ⟨by (with_reducible repeat (first | apply Kd.R_alloc | apply Kd.R_drewN | apply Kd.R_drew)); exact Kd.R_mono (Kd.R_far (p := ⟨gb553, 4, none⟩) (Kd.R_far (p := ⟨gb553, 3, none⟩) (Kd.R_far (p := ⟨gb553, 2, none⟩) (Kd.R_far (p := ⟨gb553, 1, none⟩) (Kd.R_far (p := ⟨gb553, 0, none⟩) (Kd.R_types HO536.out BK553.out zq55) (fun _ hk => hk.2) (.int .i64 t547)) (fun _ hk => hk.2) (.int .i64 t548)) (fun _ hk => hk.2) (.int .i64 t549)) (fun _ hk => hk.2) (.int .i64 t550)) (fun _ hk => hk.2) (.int .i64 t551)) (fun _ hk => trivial)⟩, ⟨by (with_reducible repeat (first | refine blk_drewN ?_ _ | refine blk_drew ?_ | refine blk_alloc ?_ _)); refine blk_far ?_ NB533_553.out _; (with_reducible repeat (first | refine blk_drewN ?_ _ | refine blk_drew ?_ | refine blk_alloc ?_ _)); refine blk_far ?_ NB533_553.out _; (with_reducible repeat (first | refine blk_drewN ?_ _ | refine blk_drew ?_ | refine blk_alloc ?_ _)); refine blk_far ?_ NB533_553.out _; (with_reducible repeat (first | refine blk_drewN ?_ _ | refine blk_drew ?_ | refine blk_alloc ?_ _)); refine blk_far ?_ NB533_553.out _; (with_reducible repeat (first | refine blk_drewN ?_ _ | refine blk_drew ?_ | refine blk_alloc ?_ _)); refine blk_far ?_ NB533_553.out _; (with_reducible repeat (first | refine blk_drewN ?_ _ | refine blk_drew ?_ | refine blk_alloc ?_ _)); exact BK533.out⟩, ⟨by (with_reducible repeat (first | refine blk_drewN ?_ _ | refine blk_drew ?_ | refine blk_alloc ?_ _)); refine blk_far ?_ NB546_553.out _; (with_reducible repeat (first | refine blk_drewN ?_ _ | refine blk_drew ?_ | refine blk_alloc ?_ _)); refine blk_far ?_ NB546_553.out _; (with_reducible repeat (first | refine blk_drewN ?_ _ | refine blk_drew ?_ | refine blk_alloc ?_ _)); refine blk_far ?_ NB546_553.out _; (with_reducible repeat (first | refine blk_drewN ?_ _ | refine blk_drew ?_ | refine blk_alloc ?_ _)); refine blk_far ?_ NB546_553.out _; (with_reducible repeat (first | refine blk_drewN ?_ _ | refine blk_drew ?_ | refine blk_alloc ?_ _)); refine blk_far ?_ NB546_553.out _; (with_reducible repeat (first | refine blk_drewN ?_ _ | refine blk_drew ?_ | refine blk_alloc ?_ _)); exact BK546.out⟩, ⟨by (with_reducible repeat (first | refine blk_drewN ?_ _ | refine blk_drew ?_ | refine blk_alloc ?_ _)); refine blk_put (cs := #[.int .i64 t547, .int .i64 t548, .int .i64 t549, .int .i64 t550, .int .i64 0]) ?_ 4 _ rfl; (with_reducible repeat (first | refine blk_drewN ?_ _ | refine blk_drew ?_ | refine blk_alloc ?_ _)); refine blk_put (cs := #[.int .i64 t547, .int .i64 t548, .int .i64 t549, .int .i64 0, .int .i64 0]) ?_ 3 _ rfl; (with_reducible repeat (first | refine blk_drewN ?_ _ | refine blk_drew ?_ | refine blk_alloc ?_ _)); refine blk_put (cs := #[.int .i64 t547, .int .i64 t548, .int .i64 0, .int .i64 0, .int .i64 0]) ?_ 2 _ rfl; (with_reducible repeat (first | refine blk_drewN ?_ _ | refine blk_drew ?_ | refine blk_alloc ?_ _)); refine blk_put (cs := #[.int .i64 t547, .int .i64 0, .int .i64 0, .int .i64 0, .int .i64 0]) ?_ 1 _ rfl; (with_reducible repeat (first | refine blk_drewN ?_ _ | refine blk_drew ?_ | refine blk_alloc ?_ _)); refine blk_put (cs := #[.int .i64 0, .int .i64 0, .int .i64 0, .int .i64 0, .int .i64 0]) ?_ 0 _ rfl; (with_reducible repeat (first | refine blk_drewN ?_ _ | refine blk_drew ?_ | refine blk_alloc ?_ _)); exact BK553.out⟩, ⟨by repeat (first | (with_reducible first | exact HB.out | apply below_alloc | apply pw_below_drewN | apply below_drew1 | refine below_set ?_ GE533.out | refine below_set ?_ GE546.out | refine below_set ?_ GE553.out) | exact HB.out)⟩⟩
   ·rw [if_neg c25] at H
    have c25b0 : (t545 != t552) = false := by simpa using c25
    (try (have c25b1 : decide (t545 = t552) = true := by simpa using c25))
    (try (have c25b2 : (t545 == t552) = true := by simpa using c25))
    clear c25
    (first | rw [c25b0] | (simp only [i64_w, i32_w]; rw [c25b0]) | skip)
    by_cases c26 : t545 = true
    ·subst c26
     rw [if_pos rfl] at H
     obtain ⟨t554, A27, H⟩ := zB H
     try dsimp only at H
     by_cases c28 : t554 = true
     ·subst c28
      rw [if_pos rfl] at H
      obtain ⟨t555, A29, H⟩ := zB H
      try dsimp only at H
      obtain ⟨t558, A30, H⟩ := zB H
      try dsimp only at H
      have H' := zA H
      clear H
      have hnb31 := NB546_533.out
      have hnc31 := NB533_546.out
      have hnb32 := NB546_553.out
      have hnc32 := NB553_546.out
      have hcz33_0 : w21.cell? ⟨gb546, 0, none⟩ = some (.int .i64 t540) := (blk_cell BK546.out 0).trans rfl
      have hcz33_1 : w21.cell? ⟨gb546, 1, none⟩ = some (.int .i64 t541) := (blk_cell BK546.out 1).trans rfl
      have hcz33_2 : w21.cell? ⟨gb546, 2, none⟩ = some (.int .i64 t542) := (blk_cell BK546.out 2).trans rfl
      have hcz33_3 : w21.cell? ⟨gb546, 3, none⟩ = some (.int .i64 t543) := (blk_cell BK546.out 3).trans rfl
      have hcz33_4 : w21.cell? ⟨gb546, 4, none⟩ = some (.int .i64 t544) := (blk_cell BK546.out 4).trans rfl
      have hfz33_0 := blk_frozen BK546.out 0
      have hfz33_1 := blk_frozen BK546.out 1
      have hfz33_2 := blk_frozen BK546.out 2
      have hfz33_3 := blk_frozen BK546.out 3
      have hfz33_4 := blk_frozen BK546.out 4
      go_wp2_with (first | (go_at_call 65; (with_reducible refine (impl_VecOk.calls t540 t541 t542 t543 t544 true _ A27.out).mono ?_); rintro e w34 ⟨rfl, hb⟩; replace HO536 := zA (Kd.R_below zq100 hb); replace HO539 := zA (Kd.R_below zq101 hb); replace BK533 := zA (blk_below (g := gb533) (o := .cells #[.int .i64 t528, .int .i64 t529, .int .i64 t530, .int .i64 t531, .int .i64 t532] 39 (0, 0)) zq76 hb); replace BK546 := zA (blk_below (g := gb546) (o := .cells #[.int .i64 t540, .int .i64 t541, .int .i64 t542, .int .i64 t543, .int .i64 t544] 39 (0, 0)) zq77 hb); replace BK553 := zA (blk_below (g := gb553) (o := .cells #[.int .i64 t547, .int .i64 t548, .int .i64 t549, .int .i64 t550, .int .i64 t551] 39 (0, 0)) zq47 hb); replace HB := zA (below_step zq6 hb); clear hb; have hcz35_0 : w34.cell? ⟨gb546, 0, none⟩ = some (.int .i64 t540) := (blk_cell BK546.out 0).trans rfl; have hcz35_1 : w34.cell? ⟨gb546, 1, none⟩ = some (.int .i64 t541) := (blk_cell BK546.out 1).trans rfl; have hcz35_2 : w34.cell? ⟨gb546, 2, none⟩ = some (.int .i64 t542) := (blk_cell BK546.out 2).trans rfl; have hcz35_3 : w34.cell? ⟨gb546, 3, none⟩ = some (.int .i64 t543) := (blk_cell BK546.out 3).trans rfl; have hcz35_4 : w34.cell? ⟨gb546, 4, none⟩ = some (.int .i64 t544) := (blk_cell BK546.out 4).trans rfl; have hfz35_0 := blk_frozen BK546.out 0; have hfz35_1 := blk_frozen BK546.out 1; have hfz35_2 := blk_frozen BK546.out 2; have hfz35_3 := blk_frozen BK546.out 3; have hfz35_4 := blk_frozen BK546.out 4) | (go_at_call 63; (with_reducible refine (impl_PutVec.calls k t540 t541 t542 t543 t544 t555 _ A29.out).mono ?_); rintro e w36 ⟨v556, rfl, ho0, hb⟩; have HO557 := zA (Kd.R_lower (Kd.R_new' (Kd.R_new' ho0 (Kd.R_lt zq92)) (Kd.R_lt zq110)) (below_size zq6)); replace HO536 := zA (Kd.R_elder' zq92 (Kd.R_base ho0) hb); replace HO539 := zA (Kd.R_elder' zq110 (Kd.R_base ho0) hb); replace BK533 := zA (blk_below (g := gb533) (o := .cells #[.int .i64 t528, .int .i64 t529, .int .i64 t530, .int .i64 t531, .int .i64 t532] 39 (0, 0)) zq15 hb); replace BK546 := zA (blk_below (g := gb546) (o := .cells #[.int .i64 t540, .int .i64 t541, .int .i64 t542, .int .i64 t543, .int .i64 t544] 39 (0, 0)) zq18 hb); replace BK553 := zA (blk_below (g := gb553) (o := .cells #[.int .i64 t547, .int .i64 t548, .int .i64 t549, .int .i64 t550, .int .i64 t551] 39 (0, 0)) zq24 hb); replace HB := zA (below_step zq6 hb); clear hb ho0; obtain ⟨Ao37, co37, eo37⟩ := Kd.R_slice HO557.out; subst eo37) | (go_at_call 25; (with_reducible refine (laws_sameBytes.calls k _ _ t555 _ _ t537 t558 _ ?side1 ?side2 ?side3 ?side4 A30.out).mono ?_); (case side1 => repeat (first | exact (Kd.R_reads' HO557.out).2.2 | (with_reducible refine Kd.C_alloc ?_ _) | (with_reducible refine Kd.C_drewN ?_ _) | (with_reducible refine Kd.C_drew ?_))); (case side2 => exact (Kd.R_reads' HO557.out).2.1); (case side3 => repeat (first | exact (Kd.R_reads' HO539.out).2.2 | (with_reducible refine Kd.C_alloc ?_ _) | (with_reducible refine Kd.C_drewN ?_ _) | (with_reducible refine Kd.C_drew ?_))); (case side4 => exact (Kd.R_reads' HO539.out).2.1); rintro e w' ⟨rfl, ⟨nd, rfl⟩⟩))
      go_meet
      case rel => exact ⟨_, (!t558), zq33, H', ⟨by first | omega | exact Nat.le_refl _⟩, ⟨by (with_reducible repeat (first | apply Kd.R_alloc | apply Kd.R_drewN | apply Kd.R_drew)); exact Kd.R_mono HO536.out (fun _ hk => trivial)⟩, ⟨by (with_reducible repeat (first | refine blk_drewN ?_ _ | refine blk_drew ?_ | refine blk_alloc ?_ _)); exact BK533.out⟩, ⟨by (with_reducible repeat (first | refine blk_drewN ?_ _ | refine blk_drew ?_ | refine blk_alloc ?_ _)); exact BK546.out⟩, ⟨by (with_reducible repeat (first | refine blk_drewN ?_ _ | refine blk_drew ?_ | refine blk_alloc ?_ _)); exact BK553.out⟩, ⟨by repeat (first | (with_reducible first | exact HB.out | apply below_alloc | apply pw_below_drewN | apply below_drew1 | refine below_set ?_ GE533.out | refine below_set ?_ GE546.out | refine below_set ?_ GE553.out) | exact HB.out)⟩⟩
     ·replace c28 := Bool.eq_false_iff.mpr c28
      subst c28
      rw [if_neg zF] at H
      have H' := zA H
      clear H
      have hnb38 := NB546_533.out
      have hnc38 := NB533_546.out
      have hnb39 := NB546_553.out
      have hnc39 := NB553_546.out
      have hcz40_0 : w21.cell? ⟨gb546, 0, none⟩ = some (.int .i64 t540) := (blk_cell BK546.out 0).trans rfl
      have hcz40_1 : w21.cell? ⟨gb546, 1, none⟩ = some (.int .i64 t541) := (blk_cell BK546.out 1).trans rfl
      have hcz40_2 : w21.cell? ⟨gb546, 2, none⟩ = some (.int .i64 t542) := (blk_cell BK546.out 2).trans rfl
      have hcz40_3 : w21.cell? ⟨gb546, 3, none⟩ = some (.int .i64 t543) := (blk_cell BK546.out 3).trans rfl
      have hcz40_4 : w21.cell? ⟨gb546, 4, none⟩ = some (.int .i64 t544) := (blk_cell BK546.out 4).trans rfl
      have hfz40_0 := blk_frozen BK546.out 0
      have hfz40_1 := blk_frozen BK546.out 1
      have hfz40_2 := blk_frozen BK546.out 2
      have hfz40_3 := blk_frozen BK546.out 3
      have hfz40_4 := blk_frozen BK546.out 4
      go_wp2_with (first | (go_at_call 65; (with_reducible refine (impl_VecOk.calls t540 t541 t542 t543 t544 false _ A27.out).mono ?_); rintro e w41 ⟨rfl, hb⟩; replace HO536 := zA (Kd.R_below zq100 hb); replace HO539 := zA (Kd.R_below zq101 hb); replace BK533 := zA (blk_below (g := gb533) (o := .cells #[.int .i64 t528, .int .i64 t529, .int .i64 t530, .int .i64 t531, .int .i64 t532] 39 (0, 0)) zq76 hb); replace BK546 := zA (blk_below (g := gb546) (o := .cells #[.int .i64 t540, .int .i64 t541, .int .i64 t542, .int .i64 t543, .int .i64 t544] 39 (0, 0)) zq77 hb); replace BK553 := zA (blk_below (g := gb553) (o := .cells #[.int .i64 t547, .int .i64 t548, .int .i64 t549, .int .i64 t550, .int .i64 t551] 39 (0, 0)) zq47 hb); replace HB := zA (below_step zq6 hb); clear hb))
      go_meet
      case rel => exact ⟨_, (true), zq33, H', ⟨by first | omega | exact Nat.le_refl _⟩, ⟨by (with_reducible repeat (first | apply Kd.R_alloc | apply Kd.R_drewN | apply Kd.R_drew)); exact Kd.R_mono HO536.out (fun _ hk => trivial)⟩, ⟨by (with_reducible repeat (first | refine blk_drewN ?_ _ | refine blk_drew ?_ | refine blk_alloc ?_ _)); exact BK533.out⟩, ⟨by (with_reducible repeat (first | refine blk_drewN ?_ _ | refine blk_drew ?_ | refine blk_alloc ?_ _)); exact BK546.out⟩, ⟨by (with_reducible repeat (first | refine blk_drewN ?_ _ | refine blk_drew ?_ | refine blk_alloc ?_ _)); exact BK553.out⟩, ⟨by repeat (first | (with_reducible first | exact HB.out | apply below_alloc | apply pw_below_drewN | apply below_drew1 | refine below_set ?_ GE533.out | refine below_set ?_ GE546.out | refine below_set ?_ GE553.out) | exact HB.out)⟩⟩
    ·replace c26 := Bool.eq_false_iff.mpr c26
     subst c26
     rw [if_neg zF] at H
     have H' := zA H
     clear H
     go_wp2
     go_meet
     case rel => exact ⟨_, (false), zq33, H', ⟨by first | omega | exact Nat.le_refl _⟩, ⟨by (with_reducible repeat (first | apply Kd.R_alloc | apply Kd.R_drewN | apply Kd.R_drew)); exact Kd.R_mono (Kd.R_far (p := ⟨gb553, 4, none⟩) (Kd.R_far (p := ⟨gb553, 3, none⟩) (Kd.R_far (p := ⟨gb553, 2, none⟩) (Kd.R_far (p := ⟨gb553, 1, none⟩) (Kd.R_far (p := ⟨gb553, 0, none⟩) (Kd.R_types HO536.out BK553.out zq55) (fun _ hk => hk.2) (.int .i64 t547)) (fun _ hk => hk.2) (.int .i64 t548)) (fun _ hk => hk.2) (.int .i64 t549)) (fun _ hk => hk.2) (.int .i64 t550)) (fun _ hk => hk.2) (.int .i64 t551)) (fun _ hk => trivial)⟩, ⟨by (with_reducible repeat (first | refine blk_drewN ?_ _ | refine blk_drew ?_ | refine blk_alloc ?_ _)); refine blk_far ?_ NB533_553.out _; (with_reducible repeat (first | refine blk_drewN ?_ _ | refine blk_drew ?_ | refine blk_alloc ?_ _)); refine blk_far ?_ NB533_553.out _; (with_reducible repeat (first | refine blk_drewN ?_ _ | refine blk_drew ?_ | refine blk_alloc ?_ _)); refine blk_far ?_ NB533_553.out _; (with_reducible repeat (first | refine blk_drewN ?_ _ | refine blk_drew ?_ | refine blk_alloc ?_ _)); refine blk_far ?_ NB533_553.out _; (with_reducible repeat (first | refine blk_drewN ?_ _ | refine blk_drew ?_ | refine blk_alloc ?_ _)); refine blk_far ?_ NB533_553.out _; (with_reducible repeat (first | refine blk_drewN ?_ _ | refine blk_drew ?_ | refine blk_alloc ?_ _)); exact BK533.out⟩, ⟨by (with_reducible repeat (first | refine blk_drewN ?_ _ | refine blk_drew ?_ | refine blk_alloc ?_ _)); refine blk_far ?_ NB546_553.out _; (with_reducible repeat (first | refine blk_drewN ?_ _ | refine blk_drew ?_ | refine blk_alloc ?_ _)); refine blk_far ?_ NB546_553.out _; (with_reducible repeat (first | refine blk_drewN ?_ _ | refine blk_drew ?_ | refine blk_alloc ?_ _)); refine blk_far ?_ NB546_553.out _; (with_reducible repeat (first | refine blk_drewN ?_ _ | refine blk_drew ?_ | refine blk_alloc ?_ _)); refine blk_far ?_ NB546_553.out _; (with_reducible repeat (first | refine blk_drewN ?_ _ | refine blk_drew ?_ | refine blk_alloc ?_ _)); refine blk_far ?_ NB546_553.out _; (with_reducible repeat (first | refine blk_drewN ?_ _ | refine blk_drew ?_ | refine blk_alloc ?_ _)); exact BK546.out⟩, ⟨by (with_reducible repeat (first | refine blk_drewN ?_ _ | refine blk_drew ?_ | refine blk_alloc ?_ _)); refine blk_put (cs := #[.int .i64 t547, .int .i64 t548, .int .i64 t549, .int .i64 t550, .int .i64 0]) ?_ 4 _ rfl; (with_reducible repeat (first | refine blk_drewN ?_ _ | refine blk_drew ?_ | refine blk_alloc ?_ _)); refine blk_put (cs := #[.int .i64 t547, .int .i64 t548, .int .i64 t549, .int .i64 0, .int .i64 0]) ?_ 3 _ rfl; (with_reducible repeat (first | refine blk_drewN ?_ _ | refine blk_drew ?_ | refine blk_alloc ?_ _)); refine blk_put (cs := #[.int .i64 t547, .int .i64 t548, .int .i64 0, .int .i64 0, .int .i64 0]) ?_ 2 _ rfl; (with_reducible repeat (first | refine blk_drewN ?_ _ | refine blk_drew ?_ | refine blk_alloc ?_ _)); refine blk_put (cs := #[.int .i64 t547, .int .i64 0, .int .i64 0, .int .i64 0, .int .i64 0]) ?_ 1 _ rfl; (with_reducible repeat (first | refine blk_drewN ?_ _ | refine blk_drew ?_ | refine blk_alloc ?_ _)); refine blk_put (cs := #[.int .i64 0, .int .i64 0, .int .i64 0, .int .i64 0, .int .i64 0]) ?_ 0 _ rfl; (with_reducible repeat (first | refine blk_drewN ?_ _ | refine blk_drew ?_ | refine blk_alloc ?_ _)); exact BK553.out⟩, ⟨by repeat (first | (with_reducible first | exact HB.out | apply below_alloc | apply pw_below_drewN | apply below_drew1 | refine below_set ?_ GE533.out | refine below_set ?_ GE546.out | refine below_set ?_ GE553.out) | exact HB.out)⟩⟩
  case rest =>
   clear HC9
   try clear c1
   try clear c2
   try clear p2
   try clear c3
   try clear c6
   try clear c8
   try clear c18
   try clear c22
   try clear c23
   try clear c25
   try clear c25b0
   try clear c25b1
   try clear c25b2
   try clear c26
   try clear c28
   try clear c31
   try clear c32
   try clear c33
   try clear c38
   try clear c39
   try clear hcz12_0
   try clear hcz12_1
   try clear hcz12_2
   try clear hcz12_3
   try clear hcz12_4
   try clear hcz19_0
   try clear hcz19_1
   try clear hcz19_2
   try clear hcz19_3
   try clear hcz19_4
   try clear hcz24_0
   try clear hcz24_1
   try clear hcz24_2
   try clear hcz24_3
   try clear hcz24_4
   try clear hcz33_0
   try clear hcz33_1
   try clear hcz33_2
   try clear hcz33_3
   try clear hcz33_4
   try clear hcz35_0
   try clear hcz35_1
   try clear hcz35_2
   try clear hcz35_3
   try clear hcz35_4
   try clear hcz40_0
   try clear hcz40_1
   try clear hcz40_2
   try clear hcz40_3
   try clear hcz40_4
   try clear hfz12_0
   try clear hfz12_1
   try clear hfz12_2
   try clear hfz12_3
   try clear hfz12_4
   try clear hfz19_0
   try clear hfz19_1
   try clear hfz19_2
   try clear hfz19_3
   try clear hfz19_4
   try clear hfz24_0
   try clear hfz24_1
   try clear hfz24_2
   try clear hfz24_3
   try clear hfz24_4
   try clear hfz33_0
   try clear hfz33_1
   try clear hfz33_2
   try clear hfz33_3
   try clear hfz33_4
   try clear hfz35_0
   try clear hfz35_1
   try clear hfz35_2
   try clear hfz35_3
   try clear hfz35_4
   try clear hfz40_0
   try clear hfz40_1
   try clear hfz40_2
   try clear hfz40_3
   try clear hfz40_4
   obtain ⟨kq, x47_8, rfl, HA, HJ8, HO_4, BK533, BK546, BK553, HB⟩ := hcut
   cases kq with
   | zero => exact absurd HA.out (by simp [laws_FnVecs.j0])
   | succ kj8 =>
    have H := HA.out
    clear HA
    simp only [laws_FnVecs.j0] at H
    by_cases c42 : x47_8 = true
    ·subst c42
     rw [if_pos rfl] at H
     obtain rfl := Option.some.inj H
     go_wp2
     go_ret
     exact ⟨by first | rfl | (simp [errW_none, errW_some] <;> rfl) | (simp [*, errW_none, errW_some] <;> rfl), by repeat (first | (with_reducible first | exact HB.out | apply below_alloc | apply pw_below_drewN | apply below_drew1 | refine below_set ?_ GE533.out | refine below_set ?_ GE546.out | refine below_set ?_ GE553.out) | exact HB.out)⟩
    ·replace c42 := Bool.eq_false_iff.mpr c42
     subst c42
     rw [if_neg zF] at H
     obtain ⟨t559, A43, H⟩ := zB H
     try dsimp only at H
     by_cases c44 : t559 = true
     ·subst c44
      rw [if_pos rfl] at H
      obtain ⟨⟨t560, t561, t562, t563, t564, t565⟩, A45, H⟩ := zB H
      try dsimp only at H
      by_cases c46 : t565 = true
      ·subst c46
       rw [if_pos rfl] at H
       by_cases c47 : (t560 == t528 && (t561 == t529 && (t562 == t530 && (t563 == t531 && (t564 == t532))))) = true
       ·rw [if_pos c47] at H
        have c47b0 : (t560 == t528 && (t561 == t529 && (t562 == t530 && (t563 == t531 && (t564 == t532))))) = true := c47
        (try (have c47b1 : decide (t560 = t528 && (t561 == t529 && (t562 == t530 && (t563 == t531 && (t564 == t532))))) = true := by simpa using c47))
        (try (have c47b2 : (t560 == t528 && (t561 == t529 && (t562 == t530 && (t563 == t531 && (t564 == t532))))) = true := by simpa using c47))
        clear c47
        obtain ⟨t567, A48, H⟩ := zB H
        try dsimp only at H
        obtain rfl := Option.some.inj H
        have hnb49 := NB533_546.out
        have hnc49 := NB546_533.out
        have hnb50 := NB533_553.out
        have hnc50 := NB553_533.out
        have hcz51_0 : wc.cell? ⟨gb533, 0, none⟩ = some (.int .i64 t528) := (blk_cell BK533.out 0).trans rfl
        have hcz51_1 : wc.cell? ⟨gb533, 1, none⟩ = some (.int .i64 t529) := (blk_cell BK533.out 1).trans rfl
        have hcz51_2 : wc.cell? ⟨gb533, 2, none⟩ = some (.int .i64 t530) := (blk_cell BK533.out 2).trans rfl
        have hcz51_3 : wc.cell? ⟨gb533, 3, none⟩ = some (.int .i64 t531) := (blk_cell BK533.out 3).trans rfl
        have hcz51_4 : wc.cell? ⟨gb533, 4, none⟩ = some (.int .i64 t532) := (blk_cell BK533.out 4).trans rfl
        have hfz51_0 := blk_frozen BK533.out 0
        have hfz51_1 := blk_frozen BK533.out 1
        have hfz51_2 := blk_frozen BK533.out 2
        have hfz51_3 := blk_frozen BK533.out 3
        have hfz51_4 := blk_frozen BK533.out 4
        go_wp2_with (first | ((with_reducible refine gate_callee (f := 66) rfl ?_); refine goesL_ (some 49) rfl rfl Try.func66 (by kernel_rfl) rfl #[.agg #[.int .i64 t528, .int .i64 t529, .int .i64 t530, .int .i64 t531, .int .i64 t532]] rfl zq1 ?_; (with_reducible refine (spec_VecOk.calls t528 t529 t530 t531 t532 true _ A43.out).mono ?_); rintro e w52 ⟨rfl, hb⟩; refine ⟨_, rfl, ?_⟩; replace HO_4 := zA (Kd.R_below zq35 hb); replace BK533 := zA (blk_below (g := gb533) (o := .cells #[.int .i64 t528, .int .i64 t529, .int .i64 t530, .int .i64 t531, .int .i64 t532] 39 (0, 0)) zq15 hb); replace BK546 := zA (blk_below (g := gb546) (o := .cells #[.int .i64 t540, .int .i64 t541, .int .i64 t542, .int .i64 t543, .int .i64 t544] 39 (0, 0)) zq18 hb); replace BK553 := zA (blk_below (g := gb553) (o := .cells #[.int .i64 t547, .int .i64 t548, .int .i64 t549, .int .i64 t550, .int .i64 t551] 39 (0, 0)) zq24 hb); replace HB := zA (below_step zq6 hb); clear hb; obtain ⟨Ao53, co53, eo53⟩ := Kd.R_slice HO_4.out; subst eo53) | ((with_reducible refine gate_callee (f := 33) rfl ?_); refine goesL_ (some 61) rfl rfl Try.func33 (by kernel_rfl) rfl #[.slice Ao53 t534.length co53] rfl zq1 ?_; (with_reducible refine (impl_GetVec.calls kj8 _ _ t534 t560 t561 t562 t563 t564 true _ ?side1 ?side2 A45.out).mono ?_); (case side1 => repeat (first | exact (Kd.R_reads' HO_4.out).2.2 | (with_reducible refine Kd.C_alloc ?_ _) | (with_reducible refine Kd.C_drewN ?_ _) | (with_reducible refine Kd.C_drew ?_))); (case side2 => exact (Kd.R_reads' HO_4.out).2.1); rintro e w54 ⟨rfl, hb⟩; refine ⟨_, rfl, ?_⟩; replace HO_4 := zA (Kd.R_below zq35 hb); replace BK533 := zA (blk_below (g := gb533) (o := .cells #[.int .i64 t528, .int .i64 t529, .int .i64 t530, .int .i64 t531, .int .i64 t532] 39 (0, 0)) zq15 hb); replace BK546 := zA (blk_below (g := gb546) (o := .cells #[.int .i64 t540, .int .i64 t541, .int .i64 t542, .int .i64 t543, .int .i64 t544] 39 (0, 0)) zq18 hb); replace BK553 := zA (blk_below (g := gb553) (o := .cells #[.int .i64 t547, .int .i64 t548, .int .i64 t549, .int .i64 t550, .int .i64 t551] 39 (0, 0)) zq24 hb); replace HB := zA (below_step zq6 hb); clear hb) | ((with_reducible refine gate_dst (N := 10) rfl ?_); refine box_event ?hg (N := 10) ?hd (cs := #[.int .i64 0, .int .i64 0, .int .i64 0, .int .i64 0, .int .i64 0]) (t := 39) ?hr ?_; (case hd => rfl); (case hg => rfl); (case hr => first | (go_simp; done) | (go_simp; rfl)); intro gb566 hg w55 hbox hb; replace HO_4 := zA (Kd.R_below zq35 hb); have BK566 := zA (hbox); have GW566 := zA ((zq39 : w.heap.size ≤ gb566)); have GE566 := zA ((zq39 : w.heap.size ≤ gb566)); replace HB := zA (below_step zq6 hb); have NB533_566 := zA ((zq53 : gb533 ≠ gb566)); have NB566_533 := zA ((zq54 : gb566 ≠ gb533)); replace BK533 := zA (blk_below (g := gb533) (o := .cells #[.int .i64 t528, .int .i64 t529, .int .i64 t530, .int .i64 t531, .int .i64 t532] 39 (0, 0)) zq15 hb); have NB546_566 := zA ((zq69 : gb546 ≠ gb566)); have NB566_546 := zA ((zq70 : gb566 ≠ gb546)); replace BK546 := zA (blk_below (g := gb546) (o := .cells #[.int .i64 t540, .int .i64 t541, .int .i64 t542, .int .i64 t543, .int .i64 t544] 39 (0, 0)) zq18 hb); have NB553_566 := zA ((zq97 : gb553 ≠ gb566)); have NB566_553 := zA ((zq98 : gb566 ≠ gb553)); replace BK553 := zA (blk_below (g := gb553) (o := .cells #[.int .i64 t547, .int .i64 t548, .int .i64 t549, .int .i64 t550, .int .i64 t551] 39 (0, 0)) zq24 hb); clear hb hbox hg; have hnb56 := NB566_533.out; have hnc56 := NB533_566.out; have hnb57 := NB566_546.out; have hnc57 := NB546_566.out; have hnb58 := NB566_553.out; have hnc58 := NB553_566.out; have hcz59_0 : w55.cell? ⟨gb566, 0, none⟩ = some (.int .i64 0) := (blk_cell BK566.out 0).trans rfl; have hcz59_1 : w55.cell? ⟨gb566, 1, none⟩ = some (.int .i64 0) := (blk_cell BK566.out 1).trans rfl; have hcz59_2 : w55.cell? ⟨gb566, 2, none⟩ = some (.int .i64 0) := (blk_cell BK566.out 2).trans rfl; have hcz59_3 : w55.cell? ⟨gb566, 3, none⟩ = some (.int .i64 0) := (blk_cell BK566.out 3).trans rfl; have hcz59_4 : w55.cell? ⟨gb566, 4, none⟩ = some (.int .i64 0) := (blk_cell BK566.out 4).trans rfl; have hfz59_0 := blk_frozen BK566.out 0; have hfz59_1 := blk_frozen BK566.out 1; have hfz59_2 := blk_frozen BK566.out 2; have hfz59_3 := blk_frozen BK566.out 3; have hfz59_4 := blk_frozen BK566.out 4; have hcz60_0 : w55.cell? ⟨gb533, 0, none⟩ = some (.int .i64 t528) := (blk_cell BK533.out 0).trans rfl; have hcz60_1 : w55.cell? ⟨gb533, 1, none⟩ = some (.int .i64 t529) := (blk_cell BK533.out 1).trans rfl; have hcz60_2 : w55.cell? ⟨gb533, 2, none⟩ = some (.int .i64 t530) := (blk_cell BK533.out 2).trans rfl; have hcz60_3 : w55.cell? ⟨gb533, 3, none⟩ = some (.int .i64 t531) := (blk_cell BK533.out 3).trans rfl; have hcz60_4 : w55.cell? ⟨gb533, 4, none⟩ = some (.int .i64 t532) := (blk_cell BK533.out 4).trans rfl; have hfz60_0 := blk_frozen BK533.out 0; have hfz60_1 := blk_frozen BK533.out 1; have hfz60_2 := blk_frozen BK533.out 2; have hfz60_3 := blk_frozen BK533.out 3; have hfz60_4 := blk_frozen BK533.out 4) | (go_at_call 65; (with_reducible refine (impl_VecOk.calls t528 t529 t530 t531 t532 t567 _ A48.out).mono ?_); rintro e w61 ⟨rfl, hb⟩; replace HO_4 := zA (Kd.R_below (by (with_reducible repeat (first | apply Kd.R_alloc | apply Kd.R_drewN | apply Kd.R_drew)); exact (Kd.R_mono (Kd.R_far (p := ⟨gb566, 4, none⟩) (Kd.R_far (p := ⟨gb566, 3, none⟩) (Kd.R_far (p := ⟨gb566, 2, none⟩) (Kd.R_far (p := ⟨gb566, 1, none⟩) (Kd.R_far (p := ⟨gb566, 0, none⟩) (Kd.R_types HO_4.out BK566.out zq55) (fun _ hk => hk.2) (.int .i64 t560)) (fun _ hk => hk.2) (.int .i64 t561)) (fun _ hk => hk.2) (.int .i64 t562)) (fun _ hk => hk.2) (.int .i64 t563)) (fun _ hk => hk.2) (.int .i64 t564)) (fun _ h_ => h_.1))) hb); replace BK533 := zA (blk_below (g := gb533) (o := .cells #[.int .i64 t528, .int .i64 t529, .int .i64 t530, .int .i64 t531, .int .i64 t532] 39 (0, 0)) (by (with_reducible repeat (first | refine blk_drewN ?_ _ | refine blk_drew ?_ | refine blk_alloc ?_ _)); refine blk_far ?_ NB533_566.out _; (with_reducible repeat (first | refine blk_drewN ?_ _ | refine blk_drew ?_ | refine blk_alloc ?_ _)); refine blk_far ?_ NB533_566.out _; (with_reducible repeat (first | refine blk_drewN ?_ _ | refine blk_drew ?_ | refine blk_alloc ?_ _)); refine blk_far ?_ NB533_566.out _; (with_reducible repeat (first | refine blk_drewN ?_ _ | refine blk_drew ?_ | refine blk_alloc ?_ _)); refine blk_far ?_ NB533_566.out _; (with_reducible repeat (first | refine blk_drewN ?_ _ | refine blk_drew ?_ | refine blk_alloc ?_ _)); refine blk_far ?_ NB533_566.out _; (with_reducible repeat (first | refine blk_drewN ?_ _ | refine blk_drew ?_ | refine blk_alloc ?_ _)); exact BK533.out) hb); replace BK546 := zA (blk_below (g := gb546) (o := .cells #[.int .i64 t540, .int .i64 t541, .int .i64 t542, .int .i64 t543, .int .i64 t544] 39 (0, 0)) (by (with_reducible repeat (first | refine blk_drewN ?_ _ | refine blk_drew ?_ | refine blk_alloc ?_ _)); refine blk_far ?_ NB546_566.out _; (with_reducible repeat (first | refine blk_drewN ?_ _ | refine blk_drew ?_ | refine blk_alloc ?_ _)); refine blk_far ?_ NB546_566.out _; (with_reducible repeat (first | refine blk_drewN ?_ _ | refine blk_drew ?_ | refine blk_alloc ?_ _)); refine blk_far ?_ NB546_566.out _; (with_reducible repeat (first | refine blk_drewN ?_ _ | refine blk_drew ?_ | refine blk_alloc ?_ _)); refine blk_far ?_ NB546_566.out _; (with_reducible repeat (first | refine blk_drewN ?_ _ | refine blk_drew ?_ | refine blk_alloc ?_ _)); refine blk_far ?_ NB546_566.out _; (with_reducible repeat (first | refine blk_drewN ?_ _ | refine blk_drew ?_ | refine blk_alloc ?_ _)); exact BK546.out) hb); replace BK553 := zA (blk_below (g := gb553) (o := .cells #[.int .i64 t547, .int .i64 t548, .int .i64 t549, .int .i64 t550, .int .i64 t551] 39 (0, 0)) (by (with_reducible repeat (first | refine blk_drewN ?_ _ | refine blk_drew ?_ | refine blk_alloc ?_ _)); refine blk_far ?_ NB553_566.out _; (with_reducible repeat (first | refine blk_drewN ?_ _ | refine blk_drew ?_ | refine blk_alloc ?_ _)); refine blk_far ?_ NB553_566.out _; (with_reducible repeat (first | refine blk_drewN ?_ _ | refine blk_drew ?_ | refine blk_alloc ?_ _)); refine blk_far ?_ NB553_566.out _; (with_reducible repeat (first | refine blk_drewN ?_ _ | refine blk_drew ?_ | refine blk_alloc ?_ _)); refine blk_far ?_ NB553_566.out _; (with_reducible repeat (first | refine blk_drewN ?_ _ | refine blk_drew ?_ | refine blk_alloc ?_ _)); refine blk_far ?_ NB553_566.out _; (with_reducible repeat (first | refine blk_drewN ?_ _ | refine blk_drew ?_ | refine blk_alloc ?_ _)); exact BK553.out) hb); replace BK566 := zA (blk_below (g := gb566) (o := .cells #[.int .i64 t560, .int .i64 t561, .int .i64 t562, .int .i64 t563, .int .i64 t564] 39 (0, 0)) (by (with_reducible repeat (first | refine blk_drewN ?_ _ | refine blk_drew ?_ | refine blk_alloc ?_ _)); refine blk_put (cs := #[.int .i64 t560, .int .i64 t561, .int .i64 t562, .int .i64 t563, .int .i64 0]) ?_ 4 _ rfl; (with_reducible repeat (first | refine blk_drewN ?_ _ | refine blk_drew ?_ | refine blk_alloc ?_ _)); refine blk_put (cs := #[.int .i64 t560, .int .i64 t561, .int .i64 t562, .int .i64 0, .int .i64 0]) ?_ 3 _ rfl; (with_reducible repeat (first | refine blk_drewN ?_ _ | refine blk_drew ?_ | refine blk_alloc ?_ _)); refine blk_put (cs := #[.int .i64 t560, .int .i64 t561, .int .i64 0, .int .i64 0, .int .i64 0]) ?_ 2 _ rfl; (with_reducible repeat (first | refine blk_drewN ?_ _ | refine blk_drew ?_ | refine blk_alloc ?_ _)); refine blk_put (cs := #[.int .i64 t560, .int .i64 0, .int .i64 0, .int .i64 0, .int .i64 0]) ?_ 1 _ rfl; (with_reducible repeat (first | refine blk_drewN ?_ _ | refine blk_drew ?_ | refine blk_alloc ?_ _)); refine blk_put (cs := #[.int .i64 0, .int .i64 0, .int .i64 0, .int .i64 0, .int .i64 0]) ?_ 0 _ rfl; (with_reducible repeat (first | refine blk_drewN ?_ _ | refine blk_drew ?_ | refine blk_alloc ?_ _)); exact BK566.out) hb); replace HB := zA (below_step (by repeat (first | (with_reducible first | exact HB.out | apply below_alloc | apply pw_below_drewN | apply below_drew1 | refine below_set ?_ GE533.out | refine below_set ?_ GE546.out | refine below_set ?_ GE553.out | refine below_set ?_ GE566.out) | exact HB.out)) hb); clear hb))
        go_ret
        exact ⟨by first | rfl | (simp [errW_none, errW_some] <;> rfl) | (simp [*, errW_none, errW_some] <;> rfl), by repeat (first | (with_reducible first | exact HB.out | apply below_alloc | apply pw_below_drewN | apply below_drew1 | refine below_set ?_ GE533.out | refine below_set ?_ GE546.out | refine below_set ?_ GE553.out | refine below_set ?_ GE566.out) | exact HB.out)⟩
       ·rw [if_neg c47] at H
        have c47b0 : (t560 == t528 && (t561 == t529 && (t562 == t530 && (t563 == t531 && (t564 == t532))))) = false := by simpa using c47
        (try (have c47b1 : decide (t560 = t528 && (t561 == t529 && (t562 == t530 && (t563 == t531 && (t564 == t532))))) = false := by simpa using c47))
        (try (have c47b2 : (t560 == t528 && (t561 == t529 && (t562 == t530 && (t563 == t531 && (t564 == t532))))) = false := by simpa using c47))
        (try (have c47b3 : ¬ (t560 = t528 && (t561 == t529 && (t562 == t530 && (t563 == t531 && (t564 == t532))))) := by simpa using c47))
        clear c47
        obtain rfl := Option.some.inj H
        have hnb62 := NB533_546.out
        have hnc62 := NB546_533.out
        have hnb63 := NB533_553.out
        have hnc63 := NB553_533.out
        have hcz64_0 : wc.cell? ⟨gb533, 0, none⟩ = some (.int .i64 t528) := (blk_cell BK533.out 0).trans rfl
        have hcz64_1 : wc.cell? ⟨gb533, 1, none⟩ = some (.int .i64 t529) := (blk_cell BK533.out 1).trans rfl
        have hcz64_2 : wc.cell? ⟨gb533, 2, none⟩ = some (.int .i64 t530) := (blk_cell BK533.out 2).trans rfl
        have hcz64_3 : wc.cell? ⟨gb533, 3, none⟩ = some (.int .i64 t531) := (blk_cell BK533.out 3).trans rfl
        have hcz64_4 : wc.cell? ⟨gb533, 4, none⟩ = some (.int .i64 t532) := (blk_cell BK533.out 4).trans rfl
        have hfz64_0 := blk_frozen BK533.out 0
        have hfz64_1 := blk_frozen BK533.out 1
        have hfz64_2 := blk_frozen BK533.out 2
        have hfz64_3 := blk_frozen BK533.out 3
        have hfz64_4 := blk_frozen BK533.out 4
        go_wp2_with (first | ((with_reducible refine gate_callee (f := 66) rfl ?_); refine goesL_ (some 49) rfl rfl Try.func66 (by kernel_rfl) rfl #[.agg #[.int .i64 t528, .int .i64 t529, .int .i64 t530, .int .i64 t531, .int .i64 t532]] rfl zq1 ?_; (with_reducible refine (spec_VecOk.calls t528 t529 t530 t531 t532 true _ A43.out).mono ?_); rintro e w65 ⟨rfl, hb⟩; refine ⟨_, rfl, ?_⟩; replace HO_4 := zA (Kd.R_below zq35 hb); replace BK533 := zA (blk_below (g := gb533) (o := .cells #[.int .i64 t528, .int .i64 t529, .int .i64 t530, .int .i64 t531, .int .i64 t532] 39 (0, 0)) zq15 hb); replace BK546 := zA (blk_below (g := gb546) (o := .cells #[.int .i64 t540, .int .i64 t541, .int .i64 t542, .int .i64 t543, .int .i64 t544] 39 (0, 0)) zq18 hb); replace BK553 := zA (blk_below (g := gb553) (o := .cells #[.int .i64 t547, .int .i64 t548, .int .i64 t549, .int .i64 t550, .int .i64 t551] 39 (0, 0)) zq24 hb); replace HB := zA (below_step zq6 hb); clear hb; obtain ⟨Ao66, co66, eo66⟩ := Kd.R_slice HO_4.out; subst eo66) | ((with_reducible refine gate_callee (f := 33) rfl ?_); refine goesL_ (some 61) rfl rfl Try.func33 (by kernel_rfl) rfl #[.slice Ao66 t534.length co66] rfl zq1 ?_; (with_reducible refine (impl_GetVec.calls kj8 _ _ t534 t560 t561 t562 t563 t564 true _ ?side1 ?side2 A45.out).mono ?_); (case side1 => repeat (first | exact (Kd.R_reads' HO_4.out).2.2 | (with_reducible refine Kd.C_alloc ?_ _) | (with_reducible refine Kd.C_drewN ?_ _) | (with_reducible refine Kd.C_drew ?_))); (case side2 => exact (Kd.R_reads' HO_4.out).2.1); rintro e w67 ⟨rfl, hb⟩; refine ⟨_, rfl, ?_⟩; replace HO_4 := zA (Kd.R_below zq35 hb); replace BK533 := zA (blk_below (g := gb533) (o := .cells #[.int .i64 t528, .int .i64 t529, .int .i64 t530, .int .i64 t531, .int .i64 t532] 39 (0, 0)) zq15 hb); replace BK546 := zA (blk_below (g := gb546) (o := .cells #[.int .i64 t540, .int .i64 t541, .int .i64 t542, .int .i64 t543, .int .i64 t544] 39 (0, 0)) zq18 hb); replace BK553 := zA (blk_below (g := gb553) (o := .cells #[.int .i64 t547, .int .i64 t548, .int .i64 t549, .int .i64 t550, .int .i64 t551] 39 (0, 0)) zq24 hb); replace HB := zA (below_step zq6 hb); clear hb) | ((with_reducible refine gate_dst (N := 10) rfl ?_); refine box_event ?hg (N := 10) ?hd (cs := #[.int .i64 0, .int .i64 0, .int .i64 0, .int .i64 0, .int .i64 0]) (t := 39) ?hr ?_; (case hd => rfl); (case hg => rfl); (case hr => first | (go_simp; done) | (go_simp; rfl)); intro gb566 hg w68 hbox hb; replace HO_4 := zA (Kd.R_below zq35 hb); have BK566 := zA (hbox); have GW566 := zA ((zq39 : w.heap.size ≤ gb566)); have GE566 := zA ((zq39 : w.heap.size ≤ gb566)); replace HB := zA (below_step zq6 hb); have NB533_566 := zA ((zq53 : gb533 ≠ gb566)); have NB566_533 := zA ((zq54 : gb566 ≠ gb533)); replace BK533 := zA (blk_below (g := gb533) (o := .cells #[.int .i64 t528, .int .i64 t529, .int .i64 t530, .int .i64 t531, .int .i64 t532] 39 (0, 0)) zq15 hb); have NB546_566 := zA ((zq69 : gb546 ≠ gb566)); have NB566_546 := zA ((zq70 : gb566 ≠ gb546)); replace BK546 := zA (blk_below (g := gb546) (o := .cells #[.int .i64 t540, .int .i64 t541, .int .i64 t542, .int .i64 t543, .int .i64 t544] 39 (0, 0)) zq18 hb); have NB553_566 := zA ((zq97 : gb553 ≠ gb566)); have NB566_553 := zA ((zq98 : gb566 ≠ gb553)); replace BK553 := zA (blk_below (g := gb553) (o := .cells #[.int .i64 t547, .int .i64 t548, .int .i64 t549, .int .i64 t550, .int .i64 t551] 39 (0, 0)) zq24 hb); clear hb hbox hg; have hnb69 := NB566_533.out; have hnc69 := NB533_566.out; have hnb70 := NB566_546.out; have hnc70 := NB546_566.out; have hnb71 := NB566_553.out; have hnc71 := NB553_566.out; have hcz72_0 : w68.cell? ⟨gb566, 0, none⟩ = some (.int .i64 0) := (blk_cell BK566.out 0).trans rfl; have hcz72_1 : w68.cell? ⟨gb566, 1, none⟩ = some (.int .i64 0) := (blk_cell BK566.out 1).trans rfl; have hcz72_2 : w68.cell? ⟨gb566, 2, none⟩ = some (.int .i64 0) := (blk_cell BK566.out 2).trans rfl; have hcz72_3 : w68.cell? ⟨gb566, 3, none⟩ = some (.int .i64 0) := (blk_cell BK566.out 3).trans rfl; have hcz72_4 : w68.cell? ⟨gb566, 4, none⟩ = some (.int .i64 0) := (blk_cell BK566.out 4).trans rfl; have hfz72_0 := blk_frozen BK566.out 0; have hfz72_1 := blk_frozen BK566.out 1; have hfz72_2 := blk_frozen BK566.out 2; have hfz72_3 := blk_frozen BK566.out 3; have hfz72_4 := blk_frozen BK566.out 4; have hcz73_0 : w68.cell? ⟨gb533, 0, none⟩ = some (.int .i64 t528) := (blk_cell BK533.out 0).trans rfl; have hcz73_1 : w68.cell? ⟨gb533, 1, none⟩ = some (.int .i64 t529) := (blk_cell BK533.out 1).trans rfl; have hcz73_2 : w68.cell? ⟨gb533, 2, none⟩ = some (.int .i64 t530) := (blk_cell BK533.out 2).trans rfl; have hcz73_3 : w68.cell? ⟨gb533, 3, none⟩ = some (.int .i64 t531) := (blk_cell BK533.out 3).trans rfl; have hcz73_4 : w68.cell? ⟨gb533, 4, none⟩ = some (.int .i64 t532) := (blk_cell BK533.out 4).trans rfl; have hfz73_0 := blk_frozen BK533.out 0; have hfz73_1 := blk_frozen BK533.out 1; have hfz73_2 := blk_frozen BK533.out 2; have hfz73_3 := blk_frozen BK533.out 3; have hfz73_4 := blk_frozen BK533.out 4))
        go_ret
        exact ⟨by first | rfl | (simp [errW_none, errW_some] <;> rfl) | (simp [*, errW_none, errW_some] <;> rfl), by repeat (first | (with_reducible first | exact HB.out | apply below_alloc | apply pw_below_drewN | apply below_drew1 | refine below_set ?_ GE533.out | refine below_set ?_ GE546.out | refine below_set ?_ GE553.out | refine below_set ?_ GE566.out) | exact HB.out)⟩
      ·replace c46 := Bool.eq_false_iff.mpr c46
       subst c46
       rw [if_neg zF] at H
       obtain rfl := Option.some.inj H
       have hnb74 := NB533_546.out
       have hnc74 := NB546_533.out
       have hnb75 := NB533_553.out
       have hnc75 := NB553_533.out
       have hcz76_0 : wc.cell? ⟨gb533, 0, none⟩ = some (.int .i64 t528) := (blk_cell BK533.out 0).trans rfl
       have hcz76_1 : wc.cell? ⟨gb533, 1, none⟩ = some (.int .i64 t529) := (blk_cell BK533.out 1).trans rfl
       have hcz76_2 : wc.cell? ⟨gb533, 2, none⟩ = some (.int .i64 t530) := (blk_cell BK533.out 2).trans rfl
       have hcz76_3 : wc.cell? ⟨gb533, 3, none⟩ = some (.int .i64 t531) := (blk_cell BK533.out 3).trans rfl
       have hcz76_4 : wc.cell? ⟨gb533, 4, none⟩ = some (.int .i64 t532) := (blk_cell BK533.out 4).trans rfl
       have hfz76_0 := blk_frozen BK533.out 0
       have hfz76_1 := blk_frozen BK533.out 1
       have hfz76_2 := blk_frozen BK533.out 2
       have hfz76_3 := blk_frozen BK533.out 3
       have hfz76_4 := blk_frozen BK533.out 4
       go_wp2_with (first | ((with_reducible refine gate_callee (f := 66) rfl ?_); refine goesL_ (some 49) rfl rfl Try.func66 (by kernel_rfl) rfl #[.agg #[.int .i64 t528, .int .i64 t529, .int .i64 t530, .int .i64 t531, .int .i64 t532]] rfl zq1 ?_; (with_reducible refine (spec_VecOk.calls t528 t529 t530 t531 t532 true _ A43.out).mono ?_); rintro e w77 ⟨rfl, hb⟩; refine ⟨_, rfl, ?_⟩; replace HO_4 := zA (Kd.R_below zq35 hb); replace BK533 := zA (blk_below (g := gb533) (o := .cells #[.int .i64 t528, .int .i64 t529, .int .i64 t530, .int .i64 t531, .int .i64 t532] 39 (0, 0)) zq15 hb); replace BK546 := zA (blk_below (g := gb546) (o := .cells #[.int .i64 t540, .int .i64 t541, .int .i64 t542, .int .i64 t543, .int .i64 t544] 39 (0, 0)) zq18 hb); replace BK553 := zA (blk_below (g := gb553) (o := .cells #[.int .i64 t547, .int .i64 t548, .int .i64 t549, .int .i64 t550, .int .i64 t551] 39 (0, 0)) zq24 hb); replace HB := zA (below_step zq6 hb); clear hb; obtain ⟨Ao78, co78, eo78⟩ := Kd.R_slice HO_4.out; subst eo78) | ((with_reducible refine gate_callee (f := 33) rfl ?_); refine goesL_ (some 61) rfl rfl Try.func33 (by kernel_rfl) rfl #[.slice Ao78 t534.length co78] rfl zq1 ?_; (with_reducible refine (impl_GetVec.calls kj8 _ _ t534 t560 t561 t562 t563 t564 false _ ?side1 ?side2 A45.out).mono ?_); (case side1 => repeat (first | exact (Kd.R_reads' HO_4.out).2.2 | (with_reducible refine Kd.C_alloc ?_ _) | (with_reducible refine Kd.C_drewN ?_ _) | (with_reducible refine Kd.C_drew ?_))); (case side2 => exact (Kd.R_reads' HO_4.out).2.1); rintro e w79 ⟨rfl, hb⟩; refine ⟨_, rfl, ?_⟩; replace HO_4 := zA (Kd.R_below zq35 hb); replace BK533 := zA (blk_below (g := gb533) (o := .cells #[.int .i64 t528, .int .i64 t529, .int .i64 t530, .int .i64 t531, .int .i64 t532] 39 (0, 0)) zq15 hb); replace BK546 := zA (blk_below (g := gb546) (o := .cells #[.int .i64 t540, .int .i64 t541, .int .i64 t542, .int .i64 t543, .int .i64 t544] 39 (0, 0)) zq18 hb); replace BK553 := zA (blk_below (g := gb553) (o := .cells #[.int .i64 t547, .int .i64 t548, .int .i64 t549, .int .i64 t550, .int .i64 t551] 39 (0, 0)) zq24 hb); replace HB := zA (below_step zq6 hb); clear hb) | ((with_reducible refine gate_dst (N := 10) rfl ?_); refine box_event ?hg (N := 10) ?hd (cs := #[.int .i64 0, .int .i64 0, .int .i64 0, .int .i64 0, .int .i64 0]) (t := 39) ?hr ?_; (case hd => rfl); (case hg => rfl); (case hr => first | (go_simp; done) | (go_simp; rfl)); intro gb566 hg w80 hbox hb; replace HO_4 := zA (Kd.R_below zq35 hb); have BK566 := zA (hbox); have GW566 := zA ((zq39 : w.heap.size ≤ gb566)); have GE566 := zA ((zq39 : w.heap.size ≤ gb566)); replace HB := zA (below_step zq6 hb); have NB533_566 := zA ((zq53 : gb533 ≠ gb566)); have NB566_533 := zA ((zq54 : gb566 ≠ gb533)); replace BK533 := zA (blk_below (g := gb533) (o := .cells #[.int .i64 t528, .int .i64 t529, .int .i64 t530, .int .i64 t531, .int .i64 t532] 39 (0, 0)) zq15 hb); have NB546_566 := zA ((zq69 : gb546 ≠ gb566)); have NB566_546 := zA ((zq70 : gb566 ≠ gb546)); replace BK546 := zA (blk_below (g := gb546) (o := .cells #[.int .i64 t540, .int .i64 t541, .int .i64 t542, .int .i64 t543, .int .i64 t544] 39 (0, 0)) zq18 hb); have NB553_566 := zA ((zq97 : gb553 ≠ gb566)); have NB566_553 := zA ((zq98 : gb566 ≠ gb553)); replace BK553 := zA (blk_below (g := gb553) (o := .cells #[.int .i64 t547, .int .i64 t548, .int .i64 t549, .int .i64 t550, .int .i64 t551] 39 (0, 0)) zq24 hb); clear hb hbox hg; have hnb81 := NB566_533.out; have hnc81 := NB533_566.out; have hnb82 := NB566_546.out; have hnc82 := NB546_566.out; have hnb83 := NB566_553.out; have hnc83 := NB553_566.out; have hcz84_0 : w80.cell? ⟨gb566, 0, none⟩ = some (.int .i64 0) := (blk_cell BK566.out 0).trans rfl; have hcz84_1 : w80.cell? ⟨gb566, 1, none⟩ = some (.int .i64 0) := (blk_cell BK566.out 1).trans rfl; have hcz84_2 : w80.cell? ⟨gb566, 2, none⟩ = some (.int .i64 0) := (blk_cell BK566.out 2).trans rfl; have hcz84_3 : w80.cell? ⟨gb566, 3, none⟩ = some (.int .i64 0) := (blk_cell BK566.out 3).trans rfl; have hcz84_4 : w80.cell? ⟨gb566, 4, none⟩ = some (.int .i64 0) := (blk_cell BK566.out 4).trans rfl; have hfz84_0 := blk_frozen BK566.out 0; have hfz84_1 := blk_frozen BK566.out 1; have hfz84_2 := blk_frozen BK566.out 2; have hfz84_3 := blk_frozen BK566.out 3; have hfz84_4 := blk_frozen BK566.out 4))
       go_ret
       exact ⟨by first | rfl | (simp [errW_none, errW_some] <;> rfl) | (simp [*, errW_none, errW_some] <;> rfl), by repeat (first | (with_reducible first | exact HB.out | apply below_alloc | apply pw_below_drewN | apply below_drew1 | refine below_set ?_ GE533.out | refine below_set ?_ GE546.out | refine below_set ?_ GE553.out | refine below_set ?_ GE566.out) | exact HB.out)⟩
     ·replace c44 := Bool.eq_false_iff.mpr c44
      subst c44
      rw [if_neg zF] at H
      by_cases c85 : (t534.length : Int) = 0
      ·rw [if_pos c85] at H
       have c85b0 : ((t534.length : Int) == 0) = true := beq_iff_eq.mpr c85
       have c85b1 : ((t534.length : Int) != 0) = false := bne_eq_false_iff_eq.mpr c85
       clear c85
       obtain ⟨t568, A86, H⟩ := zB H
       try dsimp only at H
       obtain rfl := Option.some.inj H
       have hnb87 := NB533_546.out
       have hnc87 := NB546_533.out
       have hnb88 := NB533_553.out
       have hnc88 := NB553_533.out
       have hcz89_0 : wc.cell? ⟨gb533, 0, none⟩ = some (.int .i64 t528) := (blk_cell BK533.out 0).trans rfl
       have hcz89_1 : wc.cell? ⟨gb533, 1, none⟩ = some (.int .i64 t529) := (blk_cell BK533.out 1).trans rfl
       have hcz89_2 : wc.cell? ⟨gb533, 2, none⟩ = some (.int .i64 t530) := (blk_cell BK533.out 2).trans rfl
       have hcz89_3 : wc.cell? ⟨gb533, 3, none⟩ = some (.int .i64 t531) := (blk_cell BK533.out 3).trans rfl
       have hcz89_4 : wc.cell? ⟨gb533, 4, none⟩ = some (.int .i64 t532) := (blk_cell BK533.out 4).trans rfl
       have hfz89_0 := blk_frozen BK533.out 0
       have hfz89_1 := blk_frozen BK533.out 1
       have hfz89_2 := blk_frozen BK533.out 2
       have hfz89_3 := blk_frozen BK533.out 3
       have hfz89_4 := blk_frozen BK533.out 4
       go_wp2_with (first | ((with_reducible refine gate_callee (f := 66) rfl ?_); refine goesL_ (some 49) rfl rfl Try.func66 (by kernel_rfl) rfl #[.agg #[.int .i64 t528, .int .i64 t529, .int .i64 t530, .int .i64 t531, .int .i64 t532]] rfl zq1 ?_; (with_reducible refine (spec_VecOk.calls t528 t529 t530 t531 t532 false _ A43.out).mono ?_); rintro e w90 ⟨rfl, hb⟩; refine ⟨_, rfl, ?_⟩; replace HO_4 := zA (Kd.R_below zq35 hb); replace BK533 := zA (blk_below (g := gb533) (o := .cells #[.int .i64 t528, .int .i64 t529, .int .i64 t530, .int .i64 t531, .int .i64 t532] 39 (0, 0)) zq15 hb); replace BK546 := zA (blk_below (g := gb546) (o := .cells #[.int .i64 t540, .int .i64 t541, .int .i64 t542, .int .i64 t543, .int .i64 t544] 39 (0, 0)) zq18 hb); replace BK553 := zA (blk_below (g := gb553) (o := .cells #[.int .i64 t547, .int .i64 t548, .int .i64 t549, .int .i64 t550, .int .i64 t551] 39 (0, 0)) zq24 hb); replace HB := zA (below_step zq6 hb); clear hb; obtain ⟨Ao91, co91, eo91⟩ := Kd.R_slice HO_4.out; subst eo91; have hcz92_0 : w90.cell? ⟨gb533, 0, none⟩ = some (.int .i64 t528) := (blk_cell BK533.out 0).trans rfl; have hcz92_1 : w90.cell? ⟨gb533, 1, none⟩ = some (.int .i64 t529) := (blk_cell BK533.out 1).trans rfl; have hcz92_2 : w90.cell? ⟨gb533, 2, none⟩ = some (.int .i64 t530) := (blk_cell BK533.out 2).trans rfl; have hcz92_3 : w90.cell? ⟨gb533, 3, none⟩ = some (.int .i64 t531) := (blk_cell BK533.out 3).trans rfl; have hcz92_4 : w90.cell? ⟨gb533, 4, none⟩ = some (.int .i64 t532) := (blk_cell BK533.out 4).trans rfl; have hfz92_0 := blk_frozen BK533.out 0; have hfz92_1 := blk_frozen BK533.out 1; have hfz92_2 := blk_frozen BK533.out 2; have hfz92_3 := blk_frozen BK533.out 3; have hfz92_4 := blk_frozen BK533.out 4) | (go_at_call 65; (with_reducible refine (impl_VecOk.calls t528 t529 t530 t531 t532 t568 _ A86.out).mono ?_); rintro e w93 ⟨rfl, hb⟩; replace HO_4 := zA (Kd.R_below zq35 hb); replace BK533 := zA (blk_below (g := gb533) (o := .cells #[.int .i64 t528, .int .i64 t529, .int .i64 t530, .int .i64 t531, .int .i64 t532] 39 (0, 0)) zq15 hb); replace BK546 := zA (blk_below (g := gb546) (o := .cells #[.int .i64 t540, .int .i64 t541, .int .i64 t542, .int .i64 t543, .int .i64 t544] 39 (0, 0)) zq18 hb); replace BK553 := zA (blk_below (g := gb553) (o := .cells #[.int .i64 t547, .int .i64 t548, .int .i64 t549, .int .i64 t550, .int .i64 t551] 39 (0, 0)) zq24 hb); replace HB := zA (below_step zq6 hb); clear hb))
       go_ret
       exact ⟨by first | rfl | (simp [errW_none, errW_some] <;> rfl) | (simp [*, errW_none, errW_some] <;> rfl), by repeat (first | (with_reducible first | exact HB.out | apply below_alloc | apply pw_below_drewN | apply below_drew1 | refine below_set ?_ GE533.out | refine below_set ?_ GE546.out | refine below_set ?_ GE553.out) | exact HB.out)⟩
      ·rw [if_neg c85] at H
       have c85b0 : ((t534.length : Int) == 0) = false := beq_eq_false_iff_ne.mpr c85
       have c85b1 : ((t534.length : Int) != 0) = true := bne_iff_ne.mpr c85
       have c85b2 : ¬ (t534 = []) := fun h_ => c85 (by rw [h_]; rfl)
       obtain rfl := Option.some.inj H
       have hnb94 := NB533_546.out
       have hnc94 := NB546_533.out
       have hnb95 := NB533_553.out
       have hnc95 := NB553_533.out
       have hcz96_0 : wc.cell? ⟨gb533, 0, none⟩ = some (.int .i64 t528) := (blk_cell BK533.out 0).trans rfl
       have hcz96_1 : wc.cell? ⟨gb533, 1, none⟩ = some (.int .i64 t529) := (blk_cell BK533.out 1).trans rfl
       have hcz96_2 : wc.cell? ⟨gb533, 2, none⟩ = some (.int .i64 t530) := (blk_cell BK533.out 2).trans rfl
       have hcz96_3 : wc.cell? ⟨gb533, 3, none⟩ = some (.int .i64 t531) := (blk_cell BK533.out 3).trans rfl
       have hcz96_4 : wc.cell? ⟨gb533, 4, none⟩ = some (.int .i64 t532) := (blk_cell BK533.out 4).trans rfl
       have hfz96_0 := blk_frozen BK533.out 0
       have hfz96_1 := blk_frozen BK533.out 1
       have hfz96_2 := blk_frozen BK533.out 2
       have hfz96_3 := blk_frozen BK533.out 3
       have hfz96_4 := blk_frozen BK533.out 4
       go_wp2_with (first | ((with_reducible refine gate_callee (f := 66) rfl ?_); refine goesL_ (some 49) rfl rfl Try.func66 (by kernel_rfl) rfl #[.agg #[.int .i64 t528, .int .i64 t529, .int .i64 t530, .int .i64 t531, .int .i64 t532]] rfl zq1 ?_; (with_reducible refine (spec_VecOk.calls t528 t529 t530 t531 t532 false _ A43.out).mono ?_); rintro e w97 ⟨rfl, hb⟩; refine ⟨_, rfl, ?_⟩; replace HO_4 := zA (Kd.R_below zq35 hb); replace BK533 := zA (blk_below (g := gb533) (o := .cells #[.int .i64 t528, .int .i64 t529, .int .i64 t530, .int .i64 t531, .int .i64 t532] 39 (0, 0)) zq15 hb); replace BK546 := zA (blk_below (g := gb546) (o := .cells #[.int .i64 t540, .int .i64 t541, .int .i64 t542, .int .i64 t543, .int .i64 t544] 39 (0, 0)) zq18 hb); replace BK553 := zA (blk_below (g := gb553) (o := .cells #[.int .i64 t547, .int .i64 t548, .int .i64 t549, .int .i64 t550, .int .i64 t551] 39 (0, 0)) zq24 hb); replace HB := zA (below_step zq6 hb); clear hb; obtain ⟨Ao98, co98, eo98⟩ := Kd.R_slice HO_4.out; subst eo98))
       go_ret
       exact ⟨by first | rfl | (simp [errW_none, errW_some] <;> rfl) | (simp [*, errW_none, errW_some] <;> rfl), by repeat (first | (with_reducible first | exact HB.out | apply below_alloc | apply pw_below_drewN | apply below_drew1 | refine below_set ?_ GE533.out | refine below_set ?_ GE546.out | refine below_set ?_ GE553.out) | exact HB.out)⟩

/-- THE ONE PURE STATEMENT of laws_FnVecs: yours. -/
def laws_FnVecs.Pure : Prop := ∀ (l0 : List Int), l0.length ≤ maxLen → l0.length * 1 ≤ 140737488351232 → (∀ x ∈ l0, (Lit.int .u8 x).wf = true) → ∃ k, laws_FnVecs.f k l0 = some true
theorem laws_FnVecs.walk (P : laws_FnVecs.Pure) (a0 : Option Addr) (len0 cap0 : Nat) (z0 : List Int) (w : World) (w0 : (a0 = none ∧ len0 = 0 ∧ cap0 = 0 ∧ z0 = []) ∨ ∃ x, a0 = some x ∧ len0 ≤ cap0 ∧ cap0 ≤ maxLen ∧ z0.length = cap0 ∧ (∀ i, i < z0.length → w.cell? (x.add i) = some (.int .u8 (z0.getD i 0))) ∧ ∀ n ∈ z0, (Lit.int .u8 n).wf = true) (y0 : len0 * 1 ≤ 140737488351232) :
  Calls Try.prog 8 #[.slice a0 len0 cap0] w fun e w' => e = .returned (.bool true) ∧ Below w.heap.size w w' := by
 obtain ⟨l0, rfl, hr0, hm0, hw0, hc0⟩ := ReadsInt.ofRowC w0
 obtain ⟨k, h⟩ := P l0 hm0 y0 hw0
 refine (laws_FnVecs.calls k _ _ l0 true w (Kd.C_of_reads (d := (0 : Int)) (h1 := fun _ => rfl) hr0) hc0 h).mono ?_
 rintro e w' ⟨rfl, hd⟩
 exact ⟨rfl, hd⟩

end Go.Proofs.Ytkcgghgkmgbphaa.PFnVecs
