-- WRITTEN BY a turned copy of the kit's printer (wip/patch_print.py), for this claim
import Derived.Test.YtkcgghgkmgbphaaPFnValsx0
import Derived.Test.YtkcgghgkmgbphaaPFnValsx2
import Derived.Test.YtkcgghgkmgbphaaPFnValsx4
import Derived.Test.YtkcgghgkmgbphaaPFnValsx5
import Derived.Test.YtkcgghgkmgbphaaPFnValsx8
namespace Go.Proofs.Ytkcgghgkmgbphaa.PFnVals
open Go.RowKit Go.Proofs.YtkcgghgkmgbphaaW.PrintWords Go.Proofs.YtkcgghgkmgbphaaW.PrintLast Go.Proofs.YtkcgghgkmgbphaaW.PrintMore
attribute [local go_sem] max2_int min2_int max_two min_two max_three min_three max_four min_four   -- for this text's walks alone
set_option linter.unusedVariables false
set_option linter.unusedSimpArgs false

/-! ### spec_DrawGetVal: function 87 -/
def spec_DrawGetVal.f (k : Nat) (l0 : List Int) : Option (List Int × Int) := (spec_l1New.f k l0).bind fun bt497 => ((spec_l3Draw.f k bt497.1 bt497.2.1 bt497.2.2).bind fun bt504 => ((spec_PutVal.f k (([] : List Int)) bt504.1 bt504.2.1 bt504.2.2.1 bt504.2.2.2.1).bind fun t512 => ((spec_l1Bend.f bt497.1 bt504.2.2.2.2.1 bt504.2.2.2.2.2 t512).bind fun bt515 => ((spec_l1At.f bt497.1 bt515.2.1 bt515.2.2 bt515.1).bind fun bt520 => (some (bt515.1, bt520.1))))))
theorem spec_DrawGetVal.mono : ∀ a0 k, LeO (spec_DrawGetVal.f k a0) (spec_DrawGetVal.f (k + 1) a0) := by
 intro a0 k
 unfold spec_DrawGetVal.f
 have m0_ := @spec_PutVal.mono
 have m1_ := @spec_l1New.mono
 have m2_ := @spec_l3Draw.mono
 exact zR
set_option maxHeartbeats 8000000 in
set_option maxRecDepth 100000 in
theorem spec_DrawGetVal.calls (k : Nat) (A0 : Option Addr) (c0 : Nat) (l0 : List Int) (r1 : List Int) (r2 : Int) (w : World) (hr0 : Kd.C (Kd.int .u8) w A0 l0.length l0) (hc0 : l0.length ≤ c0) (h : spec_DrawGetVal.f k l0 = some (r1, r2)) :
  Calls Try.prog 87 #[.slice A0 l0.length c0] w fun e w' => ∃ v0_ : Value, e = .returned (.tuple #[v0_, .int .i64 r2]) ∧ Kd.R (Kd.int .u8) 5 w' w.heap.size (fun _ => True) v0_ r1 ∧ Below w.heap.size w w' := by
 have HR0 := zA hr0
 have HC0 := zA hc0
 clear hr0 hc0
 have HB := zA (Below.refl w.heap.size w)
 unfold spec_DrawGetVal.f at h
 have H := h
 clear h
 have HC2 := zA H
 clear H
 go_enter Try.func87, Try.ntmps87
 go_upto_region 0 with (fail)
 have H := HC2.out
 clear HC2
 have HC3 := zA H
 clear H
 go_upto_region 1 with (fail)
 have H := HC3.out
 clear HC3
 obtain ⟨⟨t497, t498, t499⟩, A4, H⟩ := zB H
 try dsimp only at H
 have HC5 := zA H
 clear H
 go_upto_region 2 with (first | ((with_reducible refine gate_callee (f := 104) rfl ?_); refine goesL_ (some 7) rfl rfl Try.func104 (by kernel_rfl) rfl #[.slice A0 l0.length c0] rfl zq1 ?_; (with_reducible refine (spec_l1New.calls k _ _ l0 t497 t498 t499 w _ ?side1 ?side2 ?side3 A4.out).mono ?_); (case side1 => repeat (first | (with_reducible first | exact HB.out | apply below_alloc | apply pw_below_drewN | apply below_drew1) | exact HB.out)); (case side2 => exact HR0.out); (case side3 => exact HC0.out); rintro e w6 ⟨g500, rfl, hi, hb, hb2⟩; refine ⟨_, rfl, ?_⟩; replace HB := zA (hb); have HI500 := zA (hi); clear hb hb2 hi))
 (try simp only [Act.put, List.setIfInBounds_toArray, List.set_cons_zero, List.set_cons_succ])
 have H := HC5.out
 clear HC5
 obtain ⟨y501, hy501⟩ : ∃ y_ : List Int, y_ = (([] : List Int)) := ⟨_, rfl⟩
 rw [← hy501] at H
 have Ny501 := zA hy501
 clear hy501
 obtain ⟨⟨t504, t505, t506, t507, t510, t511⟩, A7, H⟩ := zB H
 try dsimp only at H
 obtain ⟨t512, A8, H⟩ := zB H
 try dsimp only at H
 obtain ⟨⟨t515, t518, t519⟩, A9, H⟩ := zB H
 try dsimp only at H
 have HC10 := zA H
 clear H
 go_upto_region 3 with (first | ((with_reducible refine gate_dst (N := 9) rfl ?_); refine Kd.R_lit (Kd.int .u8) _ 5 ?hg (N := 9) ?hd (xs := ([] : List Int)) (inner := []) (ok := fun _ => True) (okp := fun _ => True) ?hr ?hp (fun _ hk => hk) trivial (Below.refl _ _) (Nat.le_refl _) zq134 ?_; (case hd => rfl); (case hg => rfl); (case hr => first | (go_simp; done) | (go_simp; rfl)); (case hp => exact (Reps.none _ _)); intro v502 w11 ho12 hb hg_ hnew_; clear hg_ hnew_; (first | rw [← Ny501.out] at ho12 | (simp only [Int.reduceToNat] at ho12; rw [← Ny501.out] at ho12)); have HO503 := zA (Kd.R_lower ho12 (below_size zq86)); replace HB := zA (below_step zq86 hb); replace HI500 := zA (IsS170.below zq198 hb); clear hb ho12) | ((with_reducible refine gate_callee (f := 168) rfl ?_); refine goesL_ (some 11) rfl rfl Try.func168 (by kernel_rfl) rfl #[.pointer (some ⟨g500, 0, none⟩)] rfl zq1 ?_; (with_reducible refine (spec_l3Draw.calls k g500 t497 t498 t499 t504 t505 t506 t507 t510 t511 w _ ?side1 ?side2 A7.out).mono ?_); (case side1 => repeat (first | (with_reducible first | exact HI500.out | apply IsS170.alloc | apply IsS170.drewN | apply IsS170.drew | apply IsS170.set_1 | apply IsS170.set_2) | exact HI500.out)); (case side2 => repeat (first | (with_reducible first | exact HB.out | apply below_alloc | apply pw_below_drewN | apply below_drew1 | refine below_set ?_ (IsS170.ge HI500.out)) | exact HB.out)); rintro e w13 ⟨v508, rfl, ho0, hi, hb, hk⟩; refine ⟨_, rfl, ?_⟩; replace HO503 := zA (Kd.R_mono (Kd.R_keep (IsS170.apart (show IsS170 w _ g500 t497 t498 t499 from by repeat (first | (with_reducible first | exact HI500.out | apply IsS170.alloc | apply IsS170.drewN | apply IsS170.drew | apply IsS170.set_1 | apply IsS170.set_2) | exact HI500.out)) zq141 zq39) hk (fun _ h => h.2)) (fun _ h => h.1)); have HO509 := zA (Kd.R_lower ho0 (below_size zq86)); replace HB := zA (hb); replace HI500 := zA (hi); clear hb hk hi ho0; obtain ⟨Ao14, co14, eo14⟩ := Kd.R_slice HO503.out; subst eo14; obtain ⟨Ao15, co15, eo15⟩ := Kd.R_slice HO509.out; subst eo15) | ((with_reducible refine gate_callee (f := 68) rfl ?_); refine goesL_ (some 12) rfl rfl Try.func68 (by kernel_rfl) rfl #[.slice Ao14 y501.length co14, .agg #[.int .i64 t504, .int .i64 t505, .string t506, .slice Ao15 t507.length co15]] rfl zq1 ?_; (with_reducible refine (spec_PutVal.calls k _ _ y501 t504 t505 t506 _ _ t507 t512 _ ?side1 ?side2 ?side3 ?side4 A8.out).mono ?_); (case side1 => repeat (first | exact (Kd.R_reads' HO503.out).2.2 | (with_reducible refine Kd.C_alloc ?_ _) | (with_reducible refine Kd.C_drewN ?_ _) | (with_reducible refine Kd.C_drew ?_))); (case side2 => exact (Kd.R_reads' HO503.out).2.1); (case side3 => repeat (first | exact (Kd.R_reads' HO509.out).2.2 | (with_reducible refine Kd.C_alloc ?_ _) | (with_reducible refine Kd.C_drewN ?_ _) | (with_reducible refine Kd.C_drew ?_))); (case side4 => exact (Kd.R_reads' HO509.out).2.1); rintro e w16 ⟨v513, rfl, ho0, hb⟩; refine ⟨_, rfl, ?_⟩; replace HO509 := zA (Kd.R_below zq214 hb); have HO514 := zA (Kd.R_lower (Kd.R_new' ho0 (Kd.R_lt zq141)) (below_size zq86)); replace HO503 := zA (Kd.R_elder' zq141 (Kd.R_base ho0) hb); replace HB := zA (below_step zq86 hb); replace HI500 := zA (IsS170.below zq198 hb); clear hb ho0; obtain ⟨Ao17, co17, eo17⟩ := Kd.R_slice HO514.out; subst eo17) | ((with_reducible refine gate_callee (f := 110) rfl ?_); refine goesL_ (some 13) rfl rfl Try.func110 (by kernel_rfl) rfl #[.pointer (some ⟨g500, 0, none⟩), .slice Ao17 t512.length co17] rfl zq1 ?_; (with_reducible refine (spec_l1Bend.calls g500 t497 t510 t511 (fun k_ => some k_ = (.slice Ao17 t512.length co17 : Value).ownBlock) (.slice Ao17 t512.length co17) t512 t515 t518 t519 w _ ?side1 ?side2 ?side3 A9.out).mono ?_); (case side1 => repeat (first | (with_reducible first | exact HI500.out | apply IsS170.alloc | apply IsS170.drewN | apply IsS170.drew | apply IsS170.set_1 | apply IsS170.set_2) | exact HI500.out)); (case side2 => repeat (first | (with_reducible first | exact HB.out | apply below_alloc | apply pw_below_drewN | apply below_drew1 | refine below_set ?_ (IsS170.ge HI500.out)) | exact HB.out)); (case side3 => exact Kd.R_tight rfl HO514.out); rintro e w18 ⟨v516, rfl, ho0, hi, hb, hkp⟩; refine ⟨_, rfl, ?_⟩; replace HO509 := zA (Kd.R_mono (ok' := fun k_ => True) (Kd.R_keptB ((IsS170.apart HI500.out (Kd.R_apart' HO509.out (Kd.R_typed HO514.out) zq39) zq39)) hkp (fun k_ hk_ hs_ => Or.elim hs_ (fun hs_ => (hk_.1.2) hs_) (fun e_ => (hk_.2) e_))) (fun k_ hk_ => trivial)); have HO517 := zA (Kd.R_mono (ok' := fun k_ => some k_ ≠ (.slice Ao14 y501.length co14 : Value).ownBlock) ho0 (fun k_ hk_ => Or.elim hk_ (fun hs_ => fun e_ => ((((IsS170.apart HI500.out HO503.out zq39)).1 k_ e_.symm).1.2) hs_) (fun hn_ => (Kd.fresh' (Kd.R_lt zq141) k_ hn_)))); replace HO503 := zA (Kd.R_mono (ok' := fun k_ => some k_ ≠ (v516 : Value).ownBlock) (Kd.R_keptB ((IsS170.apart HI500.out HO503.out zq39)) hkp (fun k_ hk_ hs_ => Or.elim hs_ (fun hs_ => (hk_.1.2) hs_) (fun e_ => (hk_.2) e_))) (fun k_ hk_ => fun e_ => Or.elim (ho0.1 k_ e_.symm) (fun hs_ => hk_.2.1 (.inl hs_)) (fun hn_ => Nat.not_le.2 hk_.2.2 hn_))); replace HI500 := zA (hi); replace HB := zA (hb); clear HO514; clear hb hkp ho0))
 (try simp only [Act.put, List.setIfInBounds_toArray, List.set_cons_zero, List.set_cons_succ])
 have H := HC10.out
 clear HC10
 obtain ⟨⟨t520, t521, t522⟩, A19, H⟩ := zB H
 try dsimp only at H
 simp only [Option.some.injEq, Prod.mk.injEq] at H
 obtain ⟨rfl, rfl⟩ := H
 obtain ⟨Ao20, co20, eo20⟩ := Kd.R_slice HO517.out
 subst eo20
 go_wp2_with (first | ((with_reducible refine gate_callee (f := 169) rfl ?_); refine goesL_ (some 17) rfl rfl Try.func169 (by kernel_rfl) rfl #[.pointer (some ⟨g500, 0, none⟩), .slice Ao20 t515.length co20] rfl zq1 ?_; (with_reducible refine (spec_l1At.calls g500 t497 t518 t519 _ _ t515 t520 t521 t522 w _ ?side1 ?side2 ?side3 ?side4 ?side5 A19.out).mono ?_); (case side1 => repeat (first | (with_reducible first | exact HI500.out | apply IsS170.alloc | apply IsS170.drewN | apply IsS170.drew | apply IsS170.set_1 | apply IsS170.set_2) | exact HI500.out)); (case side2 => repeat (first | (with_reducible first | exact HB.out | apply below_alloc | apply pw_below_drewN | apply below_drew1 | refine below_set ?_ (IsS170.ge HI500.out)) | exact HB.out)); (case side3 => repeat (first | exact (Kd.R_reads' HO517.out).2.2 | (with_reducible refine Kd.C_alloc ?_ _) | (with_reducible refine Kd.C_drewN ?_ _) | (with_reducible refine Kd.C_drew ?_))); (case side4 => exact (Kd.R_reads' HO517.out).2.1); (case side5 => exact far_slice (IsS170.own_ne HI500.out HO517.out zq39)); rintro e w21 ⟨rfl, hi, hb, hk⟩; refine ⟨_, rfl, ?_⟩; replace HO503 := zA (Kd.R_mono (Kd.R_keep (IsS170.apart (show IsS170 w _ g500 t497 t518 t519 from by repeat (first | (with_reducible first | exact HI500.out | apply IsS170.alloc | apply IsS170.drewN | apply IsS170.drew | apply IsS170.set_1 | apply IsS170.set_2) | exact HI500.out)) zq141 zq39) hk (fun _ h => h.2)) (fun _ h => h.1)); replace HO509 := zA (Kd.R_mono (Kd.R_keep (IsS170.apart (show IsS170 w _ g500 t497 t518 t519 from by repeat (first | (with_reducible first | exact HI500.out | apply IsS170.alloc | apply IsS170.drewN | apply IsS170.drew | apply IsS170.set_1 | apply IsS170.set_2) | exact HI500.out)) zq214 zq39) hk (fun _ h => h.2)) (fun _ h => h.1)); replace HO517 := zA (Kd.R_mono (Kd.R_keep (IsS170.apart (show IsS170 w _ g500 t497 t518 t519 from by repeat (first | (with_reducible first | exact HI500.out | apply IsS170.alloc | apply IsS170.drewN | apply IsS170.drew | apply IsS170.set_1 | apply IsS170.set_2) | exact HI500.out)) (by (with_reducible repeat (first | apply Kd.R_alloc | apply Kd.R_drewN | apply Kd.R_drew)); exact HO517.out) zq39) hk (fun _ h => h.2)) (fun _ h => h.1)); replace HB := zA (hb); replace HI500 := zA (hi); clear hb hk hi))
 go_ret2
 exact ⟨_, zq2, (by (with_reducible repeat (first | apply Kd.R_alloc | apply Kd.R_drewN | apply Kd.R_drew)); exact Kd.R_mono HO517.out (fun _ hk => trivial)), zq86⟩

/-! ### impl_GetTlv: function 112 -/
def impl_GetTlv.f (l0 : List Int) (a1 : Int) : Option (Int × List Int × Int × Bool) := if a1 < 0 then (some (0, ([] : List Int), 0, false)) else (if a1 > (wrap64 ((l0.length : Int) - 2)) then (some (0, ([] : List Int), 0, false)) else (if 0 ≤ (wrap64 (a1 + 1)) then (if (wrap64 (a1 + 1)) < (l0.length : Int) then (if (wrap64 (rd l0 (wrap64 (a1 + 1)))) ≥ 128 then (if (wrap64 (rd l0 (wrap64 (a1 + 1)))) = 129 then (if (wrap64 (a1 + 2)) ≥ (l0.length : Int) then (some (0, ([] : List Int), 0, false)) else (if 0 ≤ (wrap64 (a1 + 2)) then (if (wrap64 (a1 + 2)) < (l0.length : Int) then (if (rd l0 (wrap64 (a1 + 2))) < 128 then (some (0, ([] : List Int), 0, false)) else (if (wrap64 (rd l0 (wrap64 (a1 + 2)))) > 250 then (some (0, ([] : List Int), 0, false)) else (if (wrap64 (rd l0 (wrap64 (a1 + 2)))) > (wrap64 ((l0.length : Int) - (wrap64 ((wrap64 (a1 + 2)) + 1)))) then (some (0, ([] : List Int), 0, false)) else (if 0 ≤ a1 then (if a1 < (l0.length : Int) then (if 0 ≤ (wrap64 ((wrap64 (a1 + 2)) + 1)) then (if (wrap64 ((wrap64 (a1 + 2)) + 1)) ≤ (wrap64 ((wrap64 ((wrap64 (a1 + 2)) + 1)) + (wrap64 (rd l0 (wrap64 (a1 + 2)))))) then (if (wrap64 ((wrap64 ((wrap64 (a1 + 2)) + 1)) + (wrap64 (rd l0 (wrap64 (a1 + 2)))))) ≤ (l0.length : Int) then ((impl_copyBytes.f ((l0.take ((wrap64 ((wrap64 ((wrap64 (a1 + 2)) + 1)) + (wrap64 (rd l0 (wrap64 (a1 + 2)))))) : Int).toNat).drop ((wrap64 ((wrap64 (a1 + 2)) + 1)) : Int).toNat)).bind fun t528 => (some (wrap64 (rd l0 a1), t528, wrap64 ((wrap64 ((wrap64 (a1 + 2)) + 1)) + (wrap64 (rd l0 (wrap64 (a1 + 2))))), true))) else (none)) else (none)) else (none)) else (none)) else (none))))) else (none)) else (none))) else (some (0, ([] : List Int), 0, false))) else (if (wrap64 (rd l0 (wrap64 (a1 + 1)))) > 250 then (some (0, ([] : List Int), 0, false)) else (if (wrap64 (rd l0 (wrap64 (a1 + 1)))) > (wrap64 ((l0.length : Int) - (wrap64 (a1 + 2)))) then (some (0, ([] : List Int), 0, false)) else (if 0 ≤ a1 then (if a1 < (l0.length : Int) then (if 0 ≤ (wrap64 (a1 + 2)) then (if (wrap64 (a1 + 2)) ≤ (wrap64 ((wrap64 (a1 + 2)) + (wrap64 (rd l0 (wrap64 (a1 + 1)))))) then (if (wrap64 ((wrap64 (a1 + 2)) + (wrap64 (rd l0 (wrap64 (a1 + 1)))))) ≤ (l0.length : Int) then ((impl_copyBytes.f ((l0.take ((wrap64 ((wrap64 (a1 + 2)) + (wrap64 (rd l0 (wrap64 (a1 + 1)))))) : Int).toNat).drop ((wrap64 (a1 + 2)) : Int).toNat)).bind fun t533 => (some (wrap64 (rd l0 a1), t533, wrap64 ((wrap64 (a1 + 2)) + (wrap64 (rd l0 (wrap64 (a1 + 1))))), true))) else (none)) else (none)) else (none)) else (none)) else (none))))) else (none)) else (none)))
def impl_GetTlv.T11 : Bool × List (List Nat × List Nat) := (true, [([], []), ([], []), ([0, 1], [0, 1]), ([2], [2]), ([3], [3]), ([], []), ([], []), ([], []), ([], []), ([7, 8], [7, 8]), ([5, 6, 9], [5, 6, 9]), ([10], [10]), ([], []), ([], []), ([12, 13], [12, 13]), ([4, 11, 0, 1, 2, 3, 4], [4]), ([11, 15, 0, 1, 2, 3, 4, 5, 6, 7, 8, 9, 10, 11, 15], [11]), ([14, 16, 0, 1, 2, 3, 4, 5, 6, 7, 8, 9, 10, 11, 12, 13, 14, 15, 16], [14]), ([17, 0, 1, 2, 3, 4, 5, 6, 7, 8, 9, 10, 11, 12, 13, 14, 15, 16, 17], [])])
def impl_GetTlv.B11 : List Nat := [0, 0, 3, 7, 15, 0, 0, 0, 0, 384, 992, 2016, 0, 0, 12288, 4095, 36863, 131071, 262143]
theorem impl_GetTlv.tab11 : rtab .any (opsOf Try.f112 11) = impl_GetTlv.T11 := by kernel_rfl
theorem impl_GetTlv.bits11 : waitsOk impl_GetTlv.T11.2 impl_GetTlv.B11 = true := by kernel_rfl
set_option maxHeartbeats 8000000 in
set_option maxRecDepth 100000 in
theorem impl_GetTlv.calls (A0 : Option Addr) (c0 : Nat) (l0 : List Int) (a1 : Int) (r1 : Int) (r2 : List Int) (r3 : Int) (r4 : Bool) (w : World) (hr0 : Kd.C (Kd.int .u8) w A0 l0.length l0) (hc0 : l0.length ≤ c0) (h : impl_GetTlv.f l0 a1 = some (r1, r2, r3, r4)) :
  Calls Try.prog 112 #[.slice A0 l0.length c0, .int .i64 a1] w fun e w' => ∃ v1_ : Value, e = .returned (.tuple #[.int .i64 r1, v1_, .int .i64 r3, .bool r4]) ∧ Kd.R (Kd.int .u8) 5 w' w.heap.size (fun _ => True) v1_ r2 ∧ Below w.heap.size w w' := by
 have HR0 := zA hr0
 have HC0 := zA hc0
 clear hr0 hc0
 have HB := zA (Below.refl w.heap.size w)
 unfold impl_GetTlv.f at h
 have H := h
 clear h
 have HC3 := zA H
 clear H
 go_enter Try.func112, Try.ntmps112
 go_upto_region 0 with (fail)
 have H := HC3.out
 clear HC3
 have HC4 := zA H
 clear H
 go_upto_region 1 with (fail)
 have H := HC4.out
 clear HC4
 by_cases c5 : a1 < 0
 ·rw [if_pos c5] at H
  have c5b0 : decide (a1 < 0) = true := decide_eq_true c5
  clear c5
  have HC6 := zA H
  clear H
  go_upto_region 2 with (fail)
  have H := HC6.out
  clear HC6
  simp only [Option.some.injEq, Prod.mk.injEq] at H
  obtain ⟨rfl, rfl, rfl, rfl⟩ := H
  go_wp2
  refine bodyPost_ret (results_list (rs := [.tmp 4, .tmp 5, .tmp 6, .tmp 7]) rfl zq134 (.tmp (.tmp (.tmp (.tmp .nil))))) rfl ?_
  exact ⟨_, zq2, zq6, zq0⟩
 ·rw [if_neg c5] at H
  have c5b0 : decide (a1 < 0) = false := decide_eq_false c5
  clear c5
  by_cases c7 : a1 > (wrap64 ((l0.length : Int) - 2))
  ·rw [if_pos c7] at H
   have c7b0 : decide ((wrap64 ((l0.length : Int) - 2)) < a1) = true := decide_eq_true c7
   clear c7
   have HC8 := zA H
   clear H
   go_upto_region 2 with (fail)
   have H := HC8.out
   clear HC8
   simp only [Option.some.injEq, Prod.mk.injEq] at H
   obtain ⟨rfl, rfl, rfl, rfl⟩ := H
   go_wp2
   refine bodyPost_ret (results_list (rs := [.tmp 4, .tmp 5, .tmp 6, .tmp 7]) rfl zq134 (.tmp (.tmp (.tmp (.tmp .nil))))) rfl ?_
   exact ⟨_, zq2, zq6, zq0⟩
  ·rw [if_neg c7] at H
   have c7b0 : decide ((wrap64 ((l0.length : Int) - 2)) < a1) = false := decide_eq_false c7
   clear c7
   have HC9 := zA H
   clear H
   go_upto_region 3 with (fail)
   have H := HC9.out
   clear HC9
   obtain ⟨ji10, hji10⟩ : ∃ j_ : Int, (wrap64 (a1 + 1)) = j_ := ⟨_, rfl⟩
   replace H : (if 0 ≤ (ji10) then (if (ji10) < (l0.length : Int) then (if (wrap64 (rd l0 (ji10))) ≥ 128 then (if (wrap64 (rd l0 (ji10))) = 129 then (if (wrap64 (a1 + 2)) ≥ (l0.length : Int) then (some (0, ([] : List Int), 0, false)) else (if 0 ≤ (wrap64 (a1 + 2)) then (if (wrap64 (a1 + 2)) < (l0.length : Int) then (if (rd l0 (wrap64 (a1 + 2))) < 128 then (some (0, ([] : List Int), 0, false)) else (if (wrap64 (rd l0 (wrap64 (a1 + 2)))) > 250 then (some (0, ([] : List Int), 0, false)) else (if (wrap64 (rd l0 (wrap64 (a1 + 2)))) > (wrap64 ((l0.length : Int) - (wrap64 ((wrap64 (a1 + 2)) + 1)))) then (some (0, ([] : List Int), 0, false)) else (if 0 ≤ a1 then (if a1 < (l0.length : Int) then (if 0 ≤ (wrap64 ((wrap64 (a1 + 2)) + 1)) then (if (wrap64 ((wrap64 (a1 + 2)) + 1)) ≤ (wrap64 ((wrap64 ((wrap64 (a1 + 2)) + 1)) + (wrap64 (rd l0 (wrap64 (a1 + 2)))))) then (if (wrap64 ((wrap64 ((wrap64 (a1 + 2)) + 1)) + (wrap64 (rd l0 (wrap64 (a1 + 2)))))) ≤ (l0.length : Int) then ((impl_copyBytes.f ((l0.take ((wrap64 ((wrap64 ((wrap64 (a1 + 2)) + 1)) + (wrap64 (rd l0 (wrap64 (a1 + 2)))))) : Int).toNat).drop ((wrap64 ((wrap64 (a1 + 2)) + 1)) : Int).toNat)).bind fun t528 => (some (wrap64 (rd l0 a1), t528, wrap64 ((wrap64 ((wrap64 (a1 + 2)) + 1)) + (wrap64 (rd l0 (wrap64 (a1 + 2))))), true))) else (none)) else (none)) else (none)) else (none)) else (none))))) else (none)) else (none))) else (some (0, ([] : List Int), 0, false))) else (if (wrap64 (rd l0 (ji10))) > 250 then (some (0, ([] : List Int), 0, false)) else (if (wrap64 (rd l0 (ji10))) > (wrap64 ((l0.length : Int) - (wrap64 (a1 + 2)))) then (some (0, ([] : List Int), 0, false)) else (if 0 ≤ a1 then (if a1 < (l0.length : Int) then (if 0 ≤ (wrap64 (a1 + 2)) then (if (wrap64 (a1 + 2)) ≤ (wrap64 ((wrap64 (a1 + 2)) + (wrap64 (rd l0 (ji10))))) then (if (wrap64 ((wrap64 (a1 + 2)) + (wrap64 (rd l0 (ji10))))) ≤ (l0.length : Int) then ((impl_copyBytes.f ((l0.take ((wrap64 ((wrap64 (a1 + 2)) + (wrap64 (rd l0 (ji10))))) : Int).toNat).drop ((wrap64 (a1 + 2)) : Int).toNat)).bind fun t533 => (some (wrap64 (rd l0 a1), t533, wrap64 ((wrap64 (a1 + 2)) + (wrap64 (rd l0 (ji10)))), true))) else (none)) else (none)) else (none)) else (none)) else (none))))) else (none)) else (none)) = some (r1, r2, r3, r4) := by first | (rw [hji10] at H; exact H) | (simp only [hji10] at H ⊢; exact H)
   have hji10w : (IntKind.i64.wrap (a1 + 1)) = ji10 := (i64_w _).trans hji10
   obtain ⟨c11, H⟩ := zN H
   have c11b0 : decide (0 ≤ (ji10)) = true := decide_eq_true c11
   clear c11
   obtain ⟨c12, H⟩ := zN H
   have c12b0 : decide ((ji10) < (l0.length : Int)) = true := decide_eq_true c12
   clear c12
   have HC13 := zA H
   clear H
   have p523 : 0 ≤ ((ji10) : Int) := of_decide_eq_true zq7
   have q523 : (ji10) < (l0.length : Int) := of_decide_eq_true zq7
   obtain ⟨ad523, e523, hx523_0⟩ := Kd.at_int HR0.out (ji10) p523 q523
   cases e523
   replace hx523_0 := (HB.out.cell (World.block_lt_of_cell? w _ hx523_0)).trans hx523_0
   replace p523 := eq_true p523
   replace q523 := eq_true q523
   go_upto_region 4 with (fail)
   have H := HC13.out
   clear HC13
   by_cases c14 : (wrap64 (rd l0 (ji10))) ≥ 128
   ·rw [if_pos c14] at H
    have c14b0 : decide (128 ≤ (wrap64 (rd l0 (ji10)))) = true := decide_eq_true c14
    clear c14
    have HC15 := zA H
    clear H
    go_upto_region 5 with (fail)
    have H := HC15.out
    clear HC15
    by_cases c16 : (wrap64 (rd l0 (ji10))) = 129
    ·rw [if_pos c16] at H
     have c16b0 : ((wrap64 (rd l0 (ji10))) == 129) = true := beq_iff_eq.mpr c16
     have c16b1 : ((wrap64 (rd l0 (ji10))) != 129) = false := bne_eq_false_iff_eq.mpr c16
     clear c16
     by_cases c17 : (wrap64 (a1 + 2)) ≥ (l0.length : Int)
     ·rw [if_pos c17] at H
      have c17b0 : decide ((l0.length : Int) ≤ (wrap64 (a1 + 2))) = true := decide_eq_true c17
      clear c17
      have HC18 := zA H
      clear H
      go_upto_region 6 with (fail)
      have H := HC18.out
      clear HC18
      simp only [Option.some.injEq, Prod.mk.injEq] at H
      obtain ⟨rfl, rfl, rfl, rfl⟩ := H
      go_wp2
      refine bodyPost_ret (results_list (rs := [.tmp 4, .tmp 5, .tmp 6, .tmp 7]) rfl zq134 (.tmp (.tmp (.tmp (.tmp .nil))))) rfl ?_
      exact ⟨_, zq130, zq6, zq0⟩
     ·rw [if_neg c17] at H
      have c17b0 : decide ((l0.length : Int) ≤ (wrap64 (a1 + 2))) = false := decide_eq_false c17
      clear c17
      obtain ⟨ji19, hji19⟩ : ∃ j_ : Int, (wrap64 (a1 + 2)) = j_ := ⟨_, rfl⟩
      replace H : (if 0 ≤ (ji19) then (if (ji19) < (l0.length : Int) then (if (rd l0 (ji19)) < 128 then (some (0, ([] : List Int), 0, false)) else (if (wrap64 (rd l0 (ji19))) > 250 then (some (0, ([] : List Int), 0, false)) else (if (wrap64 (rd l0 (ji19))) > (wrap64 ((l0.length : Int) - (wrap64 ((ji19) + 1)))) then (some (0, ([] : List Int), 0, false)) else (if 0 ≤ a1 then (if a1 < (l0.length : Int) then (if 0 ≤ (wrap64 ((ji19) + 1)) then (if (wrap64 ((ji19) + 1)) ≤ (wrap64 ((wrap64 ((ji19) + 1)) + (wrap64 (rd l0 (ji19))))) then (if (wrap64 ((wrap64 ((ji19) + 1)) + (wrap64 (rd l0 (ji19))))) ≤ (l0.length : Int) then ((impl_copyBytes.f ((l0.take ((wrap64 ((wrap64 ((ji19) + 1)) + (wrap64 (rd l0 (ji19))))) : Int).toNat).drop ((wrap64 ((ji19) + 1)) : Int).toNat)).bind fun t528 => (some (wrap64 (rd l0 a1), t528, wrap64 ((wrap64 ((ji19) + 1)) + (wrap64 (rd l0 (ji19)))), true))) else (none)) else (none)) else (none)) else (none)) else (none))))) else (none)) else (none)) = some (r1, r2, r3, r4) := by first | (rw [hji19] at H; exact H) | (simp only [hji19] at H ⊢; exact H)
      (try rw [hji19] at c17b0)
      have hji19w : (IntKind.i64.wrap (a1 + 2)) = ji19 := (i64_w _).trans hji19
      obtain ⟨c20, H⟩ := zN H
      have c20b0 : decide (0 ≤ (ji19)) = true := decide_eq_true c20
      clear c20
      obtain ⟨c21, H⟩ := zN H
      have c21b0 : decide ((ji19) < (l0.length : Int)) = true := decide_eq_true c21
      clear c21
      by_cases c22 : (rd l0 (ji19)) < 128
      ·rw [if_pos c22] at H
       have c22b0 : decide ((rd l0 (ji19)) < 128) = true := decide_eq_true c22
       clear c22
       have HC23 := zA H
       clear H
       have p524 : 0 ≤ ((ji19) : Int) := of_decide_eq_true zq7
       have q524 : (ji19) < (l0.length : Int) := of_decide_eq_true zq7
       obtain ⟨ad524, e524, hx524_0⟩ := Kd.at_int HR0.out (ji19) p524 q524
       obtain rfl : ad523 = ad524 := (by injection e524)
       replace hx524_0 := (HB.out.cell (World.block_lt_of_cell? w _ hx524_0)).trans hx524_0
       replace p524 := eq_true p524
       replace q524 := eq_true q524
       go_upto_region 6 with (fail)
       have H := HC23.out
       clear HC23
       simp only [Option.some.injEq, Prod.mk.injEq] at H
       obtain ⟨rfl, rfl, rfl, rfl⟩ := H
       go_wp2
       refine bodyPost_ret (results_list (rs := [.tmp 4, .tmp 5, .tmp 6, .tmp 7]) rfl zq134 (.tmp (.tmp (.tmp (.tmp .nil))))) rfl ?_
       exact ⟨_, zq146, zq6, zq0⟩
      ·rw [if_neg c22] at H
       have c22b0 : decide ((rd l0 (ji19)) < 128) = false := decide_eq_false c22
       clear c22
       have HC24 := zA H
       clear H
       have p524 : 0 ≤ ((ji19) : Int) := of_decide_eq_true zq7
       have q524 : (ji19) < (l0.length : Int) := of_decide_eq_true zq7
       obtain ⟨ad524, e524, hx524_0⟩ := Kd.at_int HR0.out (ji19) p524 q524
       obtain rfl : ad523 = ad524 := (by injection e524)
       replace hx524_0 := (HB.out.cell (World.block_lt_of_cell? w _ hx524_0)).trans hx524_0
       replace p524 := eq_true p524
       replace q524 := eq_true q524
       go_upto_region 7 with (fail)
       have H := HC24.out
       clear HC24
       have HC25 := zA H
       clear H
       have p525 : 0 ≤ ((ji19) : Int) := of_decide_eq_true zq7
       have q525 : (ji19) < (l0.length : Int) := of_decide_eq_true zq7
       obtain ⟨ad525, e525, hx525_0⟩ := Kd.at_int HR0.out (ji19) p525 q525
       obtain rfl : ad523 = ad525 := (by injection e525)
       replace hx525_0 := (HB.out.cell (World.block_lt_of_cell? w _ hx525_0)).trans hx525_0
       replace p525 := eq_true p525
       replace q525 := eq_true q525
       go_upto_region 8 with (fail)
       have H := HC25.out
       clear HC25
       have HC26 := zA H
       clear H
       go_upto_region 9 with (fail)
       have H := HC26.out
       clear HC26
       by_cases c27 : (wrap64 (rd l0 (ji19))) > 250
       ·rw [if_pos c27] at H
        have c27b0 : decide (250 < (wrap64 (rd l0 (ji19)))) = true := decide_eq_true c27
        clear c27
        have HC28 := zA H
        clear H
        go_upto_region 10 with (fail)
        have H := HC28.out
        clear HC28
        simp only [Option.some.injEq, Prod.mk.injEq] at H
        obtain ⟨rfl, rfl, rfl, rfl⟩ := H
        go_wp2
        refine bodyPost_ret (results_list (rs := [.tmp 4, .tmp 5, .tmp 6, .tmp 7]) rfl zq134 (.tmp (.tmp (.tmp (.tmp .nil))))) rfl ?_
        exact ⟨_, zq146, zq6, zq0⟩
       ·rw [if_neg c27] at H
        have c27b0 : decide (250 < (wrap64 (rd l0 (ji19)))) = false := decide_eq_false c27
        clear c27
        by_cases c29 : (wrap64 (rd l0 (ji19))) > (wrap64 ((l0.length : Int) - (wrap64 ((ji19) + 1))))
        ·rw [if_pos c29] at H
         have c29b0 : decide ((wrap64 ((l0.length : Int) - (wrap64 ((ji19) + 1)))) < (wrap64 (rd l0 (ji19)))) = true := decide_eq_true c29
         clear c29
         have HC30 := zA H
         clear H
         go_upto_region 10 with (fail)
         have H := HC30.out
         clear HC30
         simp only [Option.some.injEq, Prod.mk.injEq] at H
         obtain ⟨rfl, rfl, rfl, rfl⟩ := H
         go_wp2
         refine bodyPost_ret (results_list (rs := [.tmp 4, .tmp 5, .tmp 6, .tmp 7]) rfl zq134 (.tmp (.tmp (.tmp (.tmp .nil))))) rfl ?_
         exact ⟨_, zq146, zq6, zq0⟩
        ·rw [if_neg c29] at H
         have c29b0 : decide ((wrap64 ((l0.length : Int) - (wrap64 ((ji19) + 1)))) < (wrap64 (rd l0 (ji19)))) = false := decide_eq_false c29
         clear c29
         have HC31 := zA H
         clear H
         go_upto_region 11 with (fail)
         have H := HC31.out
         clear HC31
         obtain ⟨c32, H⟩ := zN H
         have c32b0 : decide (0 ≤ a1) = true := decide_eq_true c32
         clear c32
         obtain ⟨c33, H⟩ := zN H
         have c33b0 : decide (a1 < (l0.length : Int)) = true := decide_eq_true c33
         clear c33
         obtain ⟨ji34, hji34⟩ : ∃ j_ : Int, (wrap64 ((ji19) + 1)) = j_ := ⟨_, rfl⟩
         replace H : (if 0 ≤ (ji34) then (if (ji34) ≤ (wrap64 ((ji34) + (wrap64 (rd l0 (ji19))))) then (if (wrap64 ((ji34) + (wrap64 (rd l0 (ji19))))) ≤ (l0.length : Int) then ((impl_copyBytes.f ((l0.take ((wrap64 ((ji34) + (wrap64 (rd l0 (ji19))))) : Int).toNat).drop ((ji34) : Int).toNat)).bind fun t528 => (some (wrap64 (rd l0 a1), t528, wrap64 ((ji34) + (wrap64 (rd l0 (ji19)))), true))) else (none)) else (none)) else (none)) = some (r1, r2, r3, r4) := by first | (rw [hji34] at H; exact H) | (simp only [hji34] at H ⊢; exact H)
         (try rw [hji34] at c29b0)
         have hji34w : (IntKind.i64.wrap ((ji19) + 1)) = ji34 := (i64_w _).trans hji34
         obtain ⟨c35, H⟩ := zN H
         have c35b0 := eq_true c35
         have c35b1 : decide (0 ≤ (ji34)) = true := decide_eq_true c35
         clear c35
         obtain ⟨c36, H⟩ := zN H
         have c36b0 := eq_true c36
         have c36b1 : decide ((ji34) ≤ (wrap64 ((ji34) + (wrap64 (rd l0 (ji19)))))) = true := decide_eq_true c36
         obtain ⟨c37, H⟩ := zN H
         have c37b0 := eq_true c37
         have c37b1 : decide ((wrap64 ((ji34) + (wrap64 (rd l0 (ji19))))) ≤ (l0.length : Int)) = true := decide_eq_true c37
         obtain ⟨t528, A38, H⟩ := zB H
         try dsimp only at H
         simp only [Option.some.injEq, Prod.mk.injEq] at H
         obtain ⟨rfl, rfl, rfl, rfl⟩ := H
         try go_wp2
         have n0_ := zA (below_drew1 HB.out)
         clear HB
         have HB := n0_
         clear n0_
         have p526 : 0 ≤ (a1 : Int) := of_decide_eq_true zq7
         have q526 : a1 < (l0.length : Int) := of_decide_eq_true zq7
         obtain ⟨ad526, e526, hx526_0⟩ := Kd.at_int HR0.out a1 p526 q526
         have hw526_0 := hx526_0
         obtain rfl : ad523 = ad526 := (by injection e526)
         replace hx526_0 := (HB.out.cell (World.block_lt_of_cell? w _ hx526_0)).trans hx526_0
         replace p526 := eq_true p526
         replace q526 := eq_true q526
         obtain ⟨i040, hi040, _, hsz40, _⟩ := info_parts info5
         obtain ⟨A40, hcut40, hA40, hC40⟩ := print_mid_of (P := Try.prog) (Value.int .u8) 0 22 5 .i64 .i64 Try.underlying22 hi040 hsz40 (some ad523) c0 l0 (ji34) (wrap64 ((ji34) + (wrap64 (rd l0 (ji19))))) (of_decide_eq_true zq7) zq163 (of_decide_eq_true zq7) HC0.out
         have HR527 := zA (Kd.C_of_reads (h1 := fun _ => rfl) (hA40 _ (Kd.reads_of_C HR0.out)))
         have HC527 := zA hC40
         clear hA40 hC40 hi040 hsz40
         refine start_ (n := 19) (S := fun w' => w'.cell? (ad523.add (a1).toNat) = some (.int .u8 (rd l0 a1))) (ds := []) #[false, false, false, false, false, false, false, false, false, false, false, false, false, false, false, false, false, false, false] (by kernel_rfl) rfl rfl (((HB.out.cell (World.block_lt_of_cell? w _ hw526_0)).trans hw526_0)) (fun hHeld => ?_); refine with_tabW impl_GetTlv.tab11 impl_GetTlv.bits11 (fun HT_ HW_ => ?_)
         generalize w.drew = w39 at HB HR527 hx526_0 hHeld ⊢
         refine pure_ (i := 0) (N := some 61) (v := ?_) (a' := ?_) #[true, false, false, false, false, false, false, false, false, false, false, false, false, false, false, false, false, false, false] rfl rfl (any_of HT_.out (by kernel_rfl)) (fun _ _ _ h => h) (Or.inl ⟨zq84, ?_⟩) ?_ ?_
         rotate_left
         ·intro w'
          go_simp
          with_reducible rfl
         rotate_left
         ·simp only [Act.put, List.setIfInBounds_toArray, List.set_cons_zero, List.set_cons_succ, i64_w, i32_w]
          rfl
         refine pure_ (i := 1) (N := some 62) (v := ?_) (a' := ?_) #[true, true, false, false, false, false, false, false, false, false, false, false, false, false, false, false, false, false, false] rfl rfl (any_of HT_.out (by kernel_rfl)) (fun _ _ _ h => h) (Or.inl ⟨zq84, ?_⟩) ?_ ?_
         rotate_left
         ·intro w'
          go_simp
          with_reducible rfl
         rotate_left
         ·simp only [Act.put, List.setIfInBounds_toArray, List.set_cons_zero, List.set_cons_succ, i64_w, i32_w]
          rfl
         refine pure_ (i := 2) (N := some 63) (v := ?_) (a' := ?_) #[true, true, true, false, false, false, false, false, false, false, false, false, false, false, false, false, false, false, false] rfl rfl (any_of HT_.out (by kernel_rfl)) (fun _ _ _ h => h) (Or.inl ⟨zq84, ?_⟩) ?_ ?_
         rotate_left
         ·intro w'
          go_simp
          with_reducible rfl
         rotate_left
         ·simp only [Act.put, List.setIfInBounds_toArray, List.set_cons_zero, List.set_cons_succ, i64_w, i32_w]
          rfl
         refine pure_ (i := 5) (N := some 66) (v := ?_) (a' := ?_) #[true, true, true, false, false, true, false, false, false, false, false, false, false, false, false, false, false, false, false] rfl rfl (any_of HT_.out (by kernel_rfl)) (fun _ _ _ h => h) (Or.inl ⟨zq84, ?_⟩) ?_ ?_
         rotate_left
         ·intro w'
          go_simp
          with_reducible rfl
         rotate_left
         ·simp only [Act.put, List.setIfInBounds_toArray, List.set_cons_zero, List.set_cons_succ, i64_w, i32_w]
          rfl
         refine pure_ (i := 6) (N := some 67) (v := ?_) (a' := ?_) #[true, true, true, false, false, true, true, false, false, false, false, false, false, false, false, false, false, false, false] rfl rfl (any_of HT_.out (by kernel_rfl)) (fun _ _ _ h => h) (Or.inl ⟨zq84, ?_⟩) ?_ ?_
         rotate_left
         ·intro w'
          go_simp
          with_reducible rfl
         rotate_left
         ·simp only [Act.put, List.setIfInBounds_toArray, List.set_cons_zero, List.set_cons_succ, i64_w, i32_w]
          rfl
         refine pure_ (i := 7) (N := some 68) (v := ?_) (a' := ?_) #[true, true, true, false, false, true, true, true, false, false, false, false, false, false, false, false, false, false, false] rfl rfl (any_of HT_.out (by kernel_rfl)) (fun _ _ _ h => h) (Or.inl ⟨zq84, ?_⟩) ?_ ?_
         rotate_left
         ·intro w'
          go_simp
          with_reducible rfl
         rotate_left
         ·simp only [Act.put, List.setIfInBounds_toArray, List.set_cons_zero, List.set_cons_succ, i64_w, i32_w]
          rfl
         refine pure_ (i := 8) (N := some 69) (v := ?_) (a' := ?_) #[true, true, true, false, false, true, true, true, true, false, false, false, false, false, false, false, false, false, false] rfl rfl (any_of HT_.out (by kernel_rfl)) (fun _ _ _ h => h) (Or.inl ⟨zq84, ?_⟩) ?_ ?_
         rotate_left
         ·intro w'
          go_simp
          with_reducible rfl
         rotate_left
         ·simp only [Act.put, List.setIfInBounds_toArray, List.set_cons_zero, List.set_cons_succ, i64_w, i32_w]
          rfl
         refine pure_ (i := 9) (N := some 70) (v := ?_) (a' := ?_) #[true, true, true, false, false, true, true, true, true, true, false, false, false, false, false, false, false, false, false] rfl rfl (any_of HT_.out (by kernel_rfl)) (fun _ _ _ h => h) (Or.inl ⟨zq84, ?_⟩) ?_ ?_
         rotate_left
         ·intro w'
          go_simp
          with_reducible rfl
         rotate_left
         ·simp only [Act.put, List.setIfInBounds_toArray, List.set_cons_zero, List.set_cons_succ, i64_w, i32_w]
          rfl
         refine pure_ (i := 10) (N := some 71) (v := ?_) (a' := ?_) #[true, true, true, false, false, true, true, true, true, true, true, false, false, false, false, false, false, false, false] rfl rfl (any_of HT_.out (by kernel_rfl)) (fun _ _ _ h => h) (Or.inl ⟨zq84, ?_⟩) ?_ ?_
         rotate_left
         ·intro w'
          go_simp
          with_reducible rfl
         rotate_left
         ·simp only [Act.put, List.setIfInBounds_toArray, List.set_cons_zero, List.set_cons_succ, i64_w, i32_w]
          rfl
         refine pure_ (i := 12) (N := some 73) (v := ?_) (a' := ?_) #[true, true, true, false, false, true, true, true, true, true, true, false, true, false, false, false, false, false, false] rfl rfl (any_of HT_.out (by kernel_rfl)) (fun _ _ _ h => h) (Or.inl ⟨zq84, ?_⟩) ?_ ?_
         rotate_left
         ·intro w'
          go_simp
          with_reducible rfl
         rotate_left
         ·simp only [Act.put, List.setIfInBounds_toArray, List.set_cons_zero, List.set_cons_succ, i64_w, i32_w]
          rfl
         refine pure_ (i := 13) (N := some 74) (v := ?_) (a' := ?_) #[true, true, true, false, false, true, true, true, true, true, true, false, true, true, false, false, false, false, false] rfl rfl (any_of HT_.out (by kernel_rfl)) (fun _ _ _ h => h) (Or.inl ⟨zq84, ?_⟩) ?_ ?_
         rotate_left
         ·intro w'
          go_simp
          with_reducible rfl
         rotate_left
         ·simp only [Act.put, List.setIfInBounds_toArray, List.set_cons_zero, List.set_cons_succ, i64_w, i32_w]
          rfl
         refine pure_ (i := 14) (N := some 75) (v := ?_) (a' := ?_) #[true, true, true, false, false, true, true, true, true, true, true, false, true, true, true, false, false, false, false] rfl rfl (any_of HT_.out (by kernel_rfl)) (fun _ _ _ h => h) (Or.inl ⟨zq84, ?_⟩) ?_ ?_
         rotate_left
         ·intro w'
          go_simp
          with_reducible rfl
         rotate_left
         ·simp only [Act.put, List.setIfInBounds_toArray, List.set_cons_zero, List.set_cons_succ, i64_w, i32_w]
          rfl
         refine take_ (i := 3) (N := some 64) (v := ?_) (a' := ?_) #[true, true, true, true, false, true, true, true, true, true, true, false, true, true, true, false, false, false, false] rfl rfl (take_ofW HT_.out HW_.out (by kernel_rfl)) (fun _ _ _ h => h) (Or.inl ⟨zq84, ?_⟩) hHeld ?_ ?_
         rotate_left
         ·intro w' s0
          go_simp
          with_reducible rfl
         rotate_left
         ·simp only [Act.put, List.setIfInBounds_toArray, List.set_cons_zero, List.set_cons_succ, i64_w, i32_w]
          rfl
         refine pure_ (i := 4) (N := some 65) (v := ?_) (a' := ?_) #[true, true, true, true, true, true, true, true, true, true, true, false, true, true, true, false, false, false, false] rfl rfl (any_of HT_.out (by kernel_rfl)) (fun _ _ _ h => h) (Or.inl ⟨zq84, ?_⟩) ?_ ?_
         rotate_left
         ·intro w'
          go_simp
          with_reducible rfl
         rotate_left
         ·simp only [Act.put, List.setIfInBounds_toArray, List.set_cons_zero, List.set_cons_succ, i64_w, i32_w]
          rfl
         refine one_ (i := 11) (N := some 72) #[true, true, true, true, true, true, true, true, true, true, true, true, true, true, true, false, false, false, false] rfl rfl (one_of HT_.out (by kernel_rfl)) zq39 (fun K hK => ?_)
         refine goes_ Try.func155 (by kernel_rfl) rfl #[.slice A40 ((l0.take ((wrap64 ((ji34) + (wrap64 (rd l0 (ji19))))) : Int).toNat).drop ((ji34) : Int).toNat).length (c0 - (ji34).toNat)] zq84 rfl rfl (by (try simp only [List.map_toArray, List.map_cons, List.map_nil]); first | done | (rw [show ((l0.take ((wrap64 ((ji34) + (wrap64 (rd l0 (ji19))))) : Int).toNat).drop ((ji34) : Int).toNat).length = ((wrap64 ((ji34) + (wrap64 (rd l0 (ji19))))).toNat - (ji34).toNat) from (by rw [List.length_drop, List.length_take]; have h_ : ((wrap64 ((ji34) + (wrap64 (rd l0 (ji19))))) : Int) ≤ (l0.length : Int) := of_decide_eq_true zq7; omega)] <;> rfl) | (simp only [hji19, hji34]; rfl) | rfl | (simp only [List.length_drop, List.length_take]; rfl)) ?_
         with_reducible refine (impl_copyBytes.calls _ _ ((l0.take ((wrap64 ((ji34) + (wrap64 (rd l0 (ji19))))) : Int).toNat).drop ((ji34) : Int).toNat) t528 _ ?side1 ?side2 A38.out).mono ?_
         (case side1 => repeat (first | exact (Kd.C_below HR527.out HB.out) | (with_reducible refine Kd.C_alloc ?_ _) | (with_reducible refine Kd.C_drewN ?_ _) | (with_reducible refine Kd.C_drew ?_)))
         (case side2 => exact HC527.out)
         rintro e w41 ⟨v529, rfl, ho0, hb⟩
         refine ⟨_, rfl, ?_⟩
         have n0_ := zA (Kd.R_lower ho0 (below_size zq0))
         have n1_ := zA (below_step zq0 hb)
         clear HB
         have HO530 := n0_
         have HB := n1_
         clear n0_ n1_
         (try clear hb)
         (try clear hb2)
         (try clear hk)
         (try clear hi)
         (try clear ho0)
         refine hK.out _ _ (((HB.out.cell (World.block_lt_of_cell? w _ hw526_0)).trans hw526_0)) (fun hHeld => ?_)
         clear hK K
         refine norm_ (a' := ?_) ?_ ?_
         rotate_left
         ·show Act.put _ (some 72) _ = _
          simp only [Act.put, List.setIfInBounds_toArray, List.set_cons_zero, List.set_cons_succ, i64_w, i32_w]
          rfl
         refine pure_ (i := 15) (N := some 4) (v := ?_) (a' := ?_) #[true, true, true, true, true, true, true, true, true, true, true, true, true, true, true, true, false, false, false] rfl rfl (any_of HT_.out (by kernel_rfl)) (fun _ _ _ h => h) (Or.inl ⟨zq84, ?_⟩) ?_ ?_
         rotate_left
         ·intro w'
          go_simp
          with_reducible rfl
         rotate_left
         ·simp only [Act.put, List.setIfInBounds_toArray, List.set_cons_zero, List.set_cons_succ, i64_w, i32_w]
          rfl
         refine pure_ (i := 16) (N := some 5) (v := ?_) (a' := ?_) #[true, true, true, true, true, true, true, true, true, true, true, true, true, true, true, true, true, false, false] rfl rfl (any_of HT_.out (by kernel_rfl)) (fun _ _ _ h => h) (Or.inl ⟨zq84, ?_⟩) ?_ ?_
         rotate_left
         ·intro w'
          go_simp
          with_reducible rfl
         rotate_left
         ·simp only [Act.put, List.setIfInBounds_toArray, List.set_cons_zero, List.set_cons_succ, i64_w, i32_w]
          rfl
         refine pure_ (i := 17) (N := some 6) (v := ?_) (a' := ?_) #[true, true, true, true, true, true, true, true, true, true, true, true, true, true, true, true, true, true, false] rfl rfl (any_of HT_.out (by kernel_rfl)) (fun _ _ _ h => h) (Or.inl ⟨zq84, ?_⟩) ?_ ?_
         rotate_left
         ·intro w'
          go_simp
          with_reducible rfl
         rotate_left
         ·simp only [Act.put, List.setIfInBounds_toArray, List.set_cons_zero, List.set_cons_succ, i64_w, i32_w]
          rfl
         refine pure_ (i := 18) (N := some 7) (v := ?_) (a' := ?_) #[true, true, true, true, true, true, true, true, true, true, true, true, true, true, true, true, true, true, true] rfl rfl (any_of HT_.out (by kernel_rfl)) (fun _ _ _ h => h) (Or.inl ⟨zq84, ?_⟩) ?_ ?_
         rotate_left
         ·intro w'
          go_simp
          with_reducible rfl
         rotate_left
         ·simp only [Act.put, List.setIfInBounds_toArray, List.set_cons_zero, List.set_cons_succ, i64_w, i32_w]
          rfl
         refine done_ (done_of HT_.out (by kernel_rfl)) ?_
         try go_wp2
         refine bodyPost_ret (results_list (rs := [.tmp 4, .tmp 5, .tmp 6, .tmp 7]) rfl zq134 (.tmp (.tmp (.tmp (.tmp .nil))))) rfl ?_
         exact ⟨_, (by first | rfl | (simp [errW_none, errW_some] <;> rfl) | (simp only [← hji10, ← hji19, ← hji34]; first | rfl | (simp [errW_none, errW_some] <;> rfl)) | (simp [*, errW_none, errW_some] <;> rfl)), (by (with_reducible repeat (first | apply Kd.R_alloc | apply Kd.R_drewN | apply Kd.R_drew)); exact HO530.out), zq0⟩
    ·rw [if_neg c16] at H
     have c16b0 : ((wrap64 (rd l0 (ji10))) == 129) = false := beq_eq_false_iff_ne.mpr c16
     have c16b1 : ((wrap64 (rd l0 (ji10))) != 129) = true := bne_iff_ne.mpr c16
     have HC42 := zA H
     clear H
     go_upto_region 6 with (fail)
     have H := HC42.out
     clear HC42
     simp only [Option.some.injEq, Prod.mk.injEq] at H
     obtain ⟨rfl, rfl, rfl, rfl⟩ := H
     go_wp2
     refine bodyPost_ret (results_list (rs := [.tmp 4, .tmp 5, .tmp 6, .tmp 7]) rfl zq134 (.tmp (.tmp (.tmp (.tmp .nil))))) rfl ?_
     exact ⟨_, zq130, zq6, zq0⟩
   ·rw [if_neg c14] at H
    have c14b0 : decide (128 ≤ (wrap64 (rd l0 (ji10)))) = false := decide_eq_false c14
    clear c14
    have HC43 := zA H
    clear H
    go_upto_region 9 with (fail)
    have H := HC43.out
    clear HC43
    by_cases c44 : (wrap64 (rd l0 (ji10))) > 250
    ·rw [if_pos c44] at H
     have c44b0 : decide (250 < (wrap64 (rd l0 (ji10)))) = true := decide_eq_true c44
     clear c44
     have HC45 := zA H
     clear H
     go_upto_region 10 with (fail)
     have H := HC45.out
     clear HC45
     simp only [Option.some.injEq, Prod.mk.injEq] at H
     obtain ⟨rfl, rfl, rfl, rfl⟩ := H
     go_wp2
     refine bodyPost_ret (results_list (rs := [.tmp 4, .tmp 5, .tmp 6, .tmp 7]) rfl zq134 (.tmp (.tmp (.tmp (.tmp .nil))))) rfl ?_
     exact ⟨_, zq130, zq6, zq0⟩
    ·rw [if_neg c44] at H
     have c44b0 : decide (250 < (wrap64 (rd l0 (ji10)))) = false := decide_eq_false c44
     clear c44
     by_cases c46 : (wrap64 (rd l0 (ji10))) > (wrap64 ((l0.length : Int) - (wrap64 (a1 + 2))))
     ·rw [if_pos c46] at H
      have c46b0 : decide ((wrap64 ((l0.length : Int) - (wrap64 (a1 + 2)))) < (wrap64 (rd l0 (ji10)))) = true := decide_eq_true c46
      clear c46
      have HC47 := zA H
      clear H
      go_upto_region 10 with (fail)
      have H := HC47.out
      clear HC47
      simp only [Option.some.injEq, Prod.mk.injEq] at H
      obtain ⟨rfl, rfl, rfl, rfl⟩ := H
      go_wp2
      refine bodyPost_ret (results_list (rs := [.tmp 4, .tmp 5, .tmp 6, .tmp 7]) rfl zq134 (.tmp (.tmp (.tmp (.tmp .nil))))) rfl ?_
      exact ⟨_, zq130, zq6, zq0⟩
     ·rw [if_neg c46] at H
      have c46b0 : decide ((wrap64 ((l0.length : Int) - (wrap64 (a1 + 2)))) < (wrap64 (rd l0 (ji10)))) = false := decide_eq_false c46
      clear c46
      have HC48 := zA H
      clear H
      go_upto_region 11 with (fail)
      have H := HC48.out
      clear HC48
      obtain ⟨c49, H⟩ := zN H
      have c49b0 : decide (0 ≤ a1) = true := decide_eq_true c49
      clear c49
      obtain ⟨c50, H⟩ := zN H
      have c50b0 : decide (a1 < (l0.length : Int)) = true := decide_eq_true c50
      clear c50
      obtain ⟨ji51, hji51⟩ : ∃ j_ : Int, (wrap64 (a1 + 2)) = j_ := ⟨_, rfl⟩
      replace H : (if 0 ≤ (ji51) then (if (ji51) ≤ (wrap64 ((ji51) + (wrap64 (rd l0 (ji10))))) then (if (wrap64 ((ji51) + (wrap64 (rd l0 (ji10))))) ≤ (l0.length : Int) then ((impl_copyBytes.f ((l0.take ((wrap64 ((ji51) + (wrap64 (rd l0 (ji10))))) : Int).toNat).drop ((ji51) : Int).toNat)).bind fun t533 => (some (wrap64 (rd l0 a1), t533, wrap64 ((ji51) + (wrap64 (rd l0 (ji10)))), true))) else (none)) else (none)) else (none)) = some (r1, r2, r3, r4) := by first | (rw [hji51] at H; exact H) | (simp only [hji51] at H ⊢; exact H)
      (try rw [hji51] at c46b0)
      have hji51w : (IntKind.i64.wrap (a1 + 2)) = ji51 := (i64_w _).trans hji51
      obtain ⟨c52, H⟩ := zN H
      have c52b0 := eq_true c52
      have c52b1 : decide (0 ≤ (ji51)) = true := decide_eq_true c52
      clear c52
      obtain ⟨c53, H⟩ := zN H
      have c53b0 := eq_true c53
      have c53b1 : decide ((ji51) ≤ (wrap64 ((ji51) + (wrap64 (rd l0 (ji10)))))) = true := decide_eq_true c53
      obtain ⟨c54, H⟩ := zN H
      have c54b0 := eq_true c54
      have c54b1 : decide ((wrap64 ((ji51) + (wrap64 (rd l0 (ji10))))) ≤ (l0.length : Int)) = true := decide_eq_true c54
      obtain ⟨t533, A55, H⟩ := zB H
      try dsimp only at H
      simp only [Option.some.injEq, Prod.mk.injEq] at H
      obtain ⟨rfl, rfl, rfl, rfl⟩ := H
      try go_wp2
      have n0_ := zA (below_drew1 HB.out)
      clear HB
      have HB := n0_
      clear n0_
      have p531 : 0 ≤ (a1 : Int) := of_decide_eq_true zq7
      have q531 : a1 < (l0.length : Int) := of_decide_eq_true zq7
      obtain ⟨ad531, e531, hx531_0⟩ := Kd.at_int HR0.out a1 p531 q531
      have hw531_0 := hx531_0
      obtain rfl : ad523 = ad531 := (by injection e531)
      replace hx531_0 := (HB.out.cell (World.block_lt_of_cell? w _ hx531_0)).trans hx531_0
      replace p531 := eq_true p531
      replace q531 := eq_true q531
      obtain ⟨i057, hi057, _, hsz57, _⟩ := info_parts info5
      obtain ⟨A57, hcut57, hA57, hC57⟩ := print_mid_of (P := Try.prog) (Value.int .u8) 0 22 5 .i64 .i64 Try.underlying22 hi057 hsz57 (some ad523) c0 l0 (ji51) (wrap64 ((ji51) + (wrap64 (rd l0 (ji10))))) (of_decide_eq_true zq7) zq163 (of_decide_eq_true zq7) HC0.out
      have HR532 := zA (Kd.C_of_reads (h1 := fun _ => rfl) (hA57 _ (Kd.reads_of_C HR0.out)))
      have HC532 := zA hC57
      clear hA57 hC57 hi057 hsz57
      refine start_ (n := 19) (S := fun w' => w'.cell? (ad523.add (a1).toNat) = some (.int .u8 (rd l0 a1))) (ds := []) #[false, false, false, false, false, false, false, false, false, false, false, false, false, false, false, false, false, false, false] (by kernel_rfl) rfl rfl (((HB.out.cell (World.block_lt_of_cell? w _ hw531_0)).trans hw531_0)) (fun hHeld => ?_); refine with_tabW impl_GetTlv.tab11 impl_GetTlv.bits11 (fun HT_ HW_ => ?_)
      generalize w.drew = w56 at HB HR532 hx531_0 hHeld ⊢
      refine pure_ (i := 0) (N := some 61) (v := ?_) (a' := ?_) #[true, false, false, false, false, false, false, false, false, false, false, false, false, false, false, false, false, false, false] rfl rfl (any_of HT_.out (by kernel_rfl)) (fun _ _ _ h => h) (Or.inl ⟨zq84, ?_⟩) ?_ ?_
      rotate_left
      ·intro w'
       go_simp
       with_reducible rfl
      rotate_left
      ·simp only [Act.put, List.setIfInBounds_toArray, List.set_cons_zero, List.set_cons_succ, i64_w, i32_w]
       rfl
      refine pure_ (i := 1) (N := some 62) (v := ?_) (a' := ?_) #[true, true, false, false, false, false, false, false, false, false, false, false, false, false, false, false, false, false, false] rfl rfl (any_of HT_.out (by kernel_rfl)) (fun _ _ _ h => h) (Or.inl ⟨zq84, ?_⟩) ?_ ?_
      rotate_left
      ·intro w'
       go_simp
       with_reducible rfl
      rotate_left
      ·simp only [Act.put, List.setIfInBounds_toArray, List.set_cons_zero, List.set_cons_succ, i64_w, i32_w]
       rfl
      refine pure_ (i := 2) (N := some 63) (v := ?_) (a' := ?_) #[true, true, true, false, false, false, false, false, false, false, false, false, false, false, false, false, false, false, false] rfl rfl (any_of HT_.out (by kernel_rfl)) (fun _ _ _ h => h) (Or.inl ⟨zq84, ?_⟩) ?_ ?_
      rotate_left
      ·intro w'
       go_simp
       with_reducible rfl
      rotate_left
      ·simp only [Act.put, List.setIfInBounds_toArray, List.set_cons_zero, List.set_cons_succ, i64_w, i32_w]
       rfl
      refine pure_ (i := 5) (N := some 66) (v := ?_) (a' := ?_) #[true, true, true, false, false, true, false, false, false, false, false, false, false, false, false, false, false, false, false] rfl rfl (any_of HT_.out (by kernel_rfl)) (fun _ _ _ h => h) (Or.inl ⟨zq84, ?_⟩) ?_ ?_
      rotate_left
      ·intro w'
       go_simp
       with_reducible rfl
      rotate_left
      ·simp only [Act.put, List.setIfInBounds_toArray, List.set_cons_zero, List.set_cons_succ, i64_w, i32_w]
       rfl
      refine pure_ (i := 6) (N := some 67) (v := ?_) (a' := ?_) #[true, true, true, false, false, true, true, false, false, false, false, false, false, false, false, false, false, false, false] rfl rfl (any_of HT_.out (by kernel_rfl)) (fun _ _ _ h => h) (Or.inl ⟨zq84, ?_⟩) ?_ ?_
      rotate_left
      ·intro w'
       go_simp
       with_reducible rfl
      rotate_left
      ·simp only [Act.put, List.setIfInBounds_toArray, List.set_cons_zero, List.set_cons_succ, i64_w, i32_w]
       rfl
      refine pure_ (i := 7) (N := some 68) (v := ?_) (a' := ?_) #[true, true, true, false, false, true, true, true, false, false, false, false, false, false, false, false, false, false, false] rfl rfl (any_of HT_.out (by kernel_rfl)) (fun _ _ _ h => h) (Or.inl ⟨zq84, ?_⟩) ?_ ?_
      rotate_left
      ·intro w'
       go_simp
       with_reducible rfl
      rotate_left
      ·simp only [Act.put, List.setIfInBounds_toArray, List.set_cons_zero, List.set_cons_succ, i64_w, i32_w]
       rfl
      refine pure_ (i := 8) (N := some 69) (v := ?_) (a' := ?_) #[true, true, true, false, false, true, true, true, true, false, false, false, false, false, false, false, false, false, false] rfl rfl (any_of HT_.out (by kernel_rfl)) (fun _ _ _ h => h) (Or.inl ⟨zq84, ?_⟩) ?_ ?_
      rotate_left
      ·intro w'
       go_simp
       with_reducible rfl
      rotate_left
      ·simp only [Act.put, List.setIfInBounds_toArray, List.set_cons_zero, List.set_cons_succ, i64_w, i32_w]
       rfl
      refine pure_ (i := 9) (N := some 70) (v := ?_) (a' := ?_) #[true, true, true, false, false, true, true, true, true, true, false, false, false, false, false, false, false, false, false] rfl rfl (any_of HT_.out (by kernel_rfl)) (fun _ _ _ h => h) (Or.inl ⟨zq84, ?_⟩) ?_ ?_
      rotate_left
      ·intro w'
       go_simp
       with_reducible rfl
      rotate_left
      ·simp only [Act.put, List.setIfInBounds_toArray, List.set_cons_zero, List.set_cons_succ, i64_w, i32_w]
       rfl
      refine pure_ (i := 10) (N := some 71) (v := ?_) (a' := ?_) #[true, true, true, false, false, true, true, true, true, true, true, false, false, false, false, false, false, false, false] rfl rfl (any_of HT_.out (by kernel_rfl)) (fun _ _ _ h => h) (Or.inl ⟨zq84, ?_⟩) ?_ ?_
      rotate_left
      ·intro w'
       go_simp
       with_reducible rfl
      rotate_left
      ·simp only [Act.put, List.setIfInBounds_toArray, List.set_cons_zero, List.set_cons_succ, i64_w, i32_w]
       rfl
      refine pure_ (i := 12) (N := some 73) (v := ?_) (a' := ?_) #[true, true, true, false, false, true, true, true, true, true, true, false, true, false, false, false, false, false, false] rfl rfl (any_of HT_.out (by kernel_rfl)) (fun _ _ _ h => h) (Or.inl ⟨zq84, ?_⟩) ?_ ?_
      rotate_left
      ·intro w'
       go_simp
       with_reducible rfl
      rotate_left
      ·simp only [Act.put, List.setIfInBounds_toArray, List.set_cons_zero, List.set_cons_succ, i64_w, i32_w]
       rfl
      refine pure_ (i := 13) (N := some 74) (v := ?_) (a' := ?_) #[true, true, true, false, false, true, true, true, true, true, true, false, true, true, false, false, false, false, false] rfl rfl (any_of HT_.out (by kernel_rfl)) (fun _ _ _ h => h) (Or.inl ⟨zq84, ?_⟩) ?_ ?_
      rotate_left
      ·intro w'
       go_simp
       with_reducible rfl
      rotate_left
      ·simp only [Act.put, List.setIfInBounds_toArray, List.set_cons_zero, List.set_cons_succ, i64_w, i32_w]
       rfl
      refine pure_ (i := 14) (N := some 75) (v := ?_) (a' := ?_) #[true, true, true, false, false, true, true, true, true, true, true, false, true, true, true, false, false, false, false] rfl rfl (any_of HT_.out (by kernel_rfl)) (fun _ _ _ h => h) (Or.inl ⟨zq84, ?_⟩) ?_ ?_
      rotate_left
      ·intro w'
       go_simp
       with_reducible rfl
      rotate_left
      ·simp only [Act.put, List.setIfInBounds_toArray, List.set_cons_zero, List.set_cons_succ, i64_w, i32_w]
       rfl
      refine take_ (i := 3) (N := some 64) (v := ?_) (a' := ?_) #[true, true, true, true, false, true, true, true, true, true, true, false, true, true, true, false, false, false, false] rfl rfl (take_ofW HT_.out HW_.out (by kernel_rfl)) (fun _ _ _ h => h) (Or.inl ⟨zq84, ?_⟩) hHeld ?_ ?_
      rotate_left
      ·intro w' s0
       go_simp
       with_reducible rfl
      rotate_left
      ·simp only [Act.put, List.setIfInBounds_toArray, List.set_cons_zero, List.set_cons_succ, i64_w, i32_w]
       rfl
      refine pure_ (i := 4) (N := some 65) (v := ?_) (a' := ?_) #[true, true, true, true, true, true, true, true, true, true, true, false, true, true, true, false, false, false, false] rfl rfl (any_of HT_.out (by kernel_rfl)) (fun _ _ _ h => h) (Or.inl ⟨zq84, ?_⟩) ?_ ?_
      rotate_left
      ·intro w'
       go_simp
       with_reducible rfl
      rotate_left
      ·simp only [Act.put, List.setIfInBounds_toArray, List.set_cons_zero, List.set_cons_succ, i64_w, i32_w]
       rfl
      refine one_ (i := 11) (N := some 72) #[true, true, true, true, true, true, true, true, true, true, true, true, true, true, true, false, false, false, false] rfl rfl (one_of HT_.out (by kernel_rfl)) zq39 (fun K hK => ?_)
      refine goes_ Try.func155 (by kernel_rfl) rfl #[.slice A57 ((l0.take ((wrap64 ((ji51) + (wrap64 (rd l0 (ji10))))) : Int).toNat).drop ((ji51) : Int).toNat).length (c0 - (ji51).toNat)] zq84 rfl rfl (by (try simp only [List.map_toArray, List.map_cons, List.map_nil]); first | done | (rw [show ((l0.take ((wrap64 ((ji51) + (wrap64 (rd l0 (ji10))))) : Int).toNat).drop ((ji51) : Int).toNat).length = ((wrap64 ((ji51) + (wrap64 (rd l0 (ji10))))).toNat - (ji51).toNat) from (by rw [List.length_drop, List.length_take]; have h_ : ((wrap64 ((ji51) + (wrap64 (rd l0 (ji10))))) : Int) ≤ (l0.length : Int) := of_decide_eq_true zq7; omega)] <;> rfl) | (simp only [hji10, hji51]; rfl) | rfl | (simp only [List.length_drop, List.length_take]; rfl)) ?_
      with_reducible refine (impl_copyBytes.calls _ _ ((l0.take ((wrap64 ((ji51) + (wrap64 (rd l0 (ji10))))) : Int).toNat).drop ((ji51) : Int).toNat) t533 _ ?side1 ?side2 A55.out).mono ?_
      (case side1 => repeat (first | exact (Kd.C_below HR532.out HB.out) | (with_reducible refine Kd.C_alloc ?_ _) | (with_reducible refine Kd.C_drewN ?_ _) | (with_reducible refine Kd.C_drew ?_)))
      (case side2 => exact HC532.out)
      rintro e w58 ⟨v534, rfl, ho0, hb⟩
      refine ⟨_, rfl, ?_⟩
      have n0_ := zA (Kd.R_lower ho0 (below_size zq0))
      have n1_ := zA (below_step zq0 hb)
      clear HB
      have HO535 := n0_
      have HB := n1_
      clear n0_ n1_
      (try clear hb)
      (try clear hb2)
      (try clear hk)
      (try clear hi)
      (try clear ho0)
      refine hK.out _ _ (((HB.out.cell (World.block_lt_of_cell? w _ hw531_0)).trans hw531_0)) (fun hHeld => ?_)
      clear hK K
      refine norm_ (a' := ?_) ?_ ?_
      rotate_left
      ·show Act.put _ (some 72) _ = _
       simp only [Act.put, List.setIfInBounds_toArray, List.set_cons_zero, List.set_cons_succ, i64_w, i32_w]
       rfl
      refine pure_ (i := 15) (N := some 4) (v := ?_) (a' := ?_) #[true, true, true, true, true, true, true, true, true, true, true, true, true, true, true, true, false, false, false] rfl rfl (any_of HT_.out (by kernel_rfl)) (fun _ _ _ h => h) (Or.inl ⟨zq84, ?_⟩) ?_ ?_
      rotate_left
      ·intro w'
       go_simp
       with_reducible rfl
      rotate_left
      ·simp only [Act.put, List.setIfInBounds_toArray, List.set_cons_zero, List.set_cons_succ, i64_w, i32_w]
       rfl
      refine pure_ (i := 16) (N := some 5) (v := ?_) (a' := ?_) #[true, true, true, true, true, true, true, true, true, true, true, true, true, true, true, true, true, false, false] rfl rfl (any_of HT_.out (by kernel_rfl)) (fun _ _ _ h => h) (Or.inl ⟨zq84, ?_⟩) ?_ ?_
      rotate_left
      ·intro w'
       go_simp
       with_reducible rfl
      rotate_left
      ·simp only [Act.put, List.setIfInBounds_toArray, List.set_cons_zero, List.set_cons_succ, i64_w, i32_w]
       rfl
      refine pure_ (i := 17) (N := some 6) (v := ?_) (a' := ?_) #[true, true, true, true, true, true, true, true, true, true, true, true, true, true, true, true, true, true, false] rfl rfl (any_of HT_.out (by kernel_rfl)) (fun _ _ _ h => h) (Or.inl ⟨zq84, ?_⟩) ?_ ?_
      rotate_left
      ·intro w'
       go_simp
       with_reducible rfl
      rotate_left
      ·simp only [Act.put, List.setIfInBounds_toArray, List.set_cons_zero, List.set_cons_succ, i64_w, i32_w]
       rfl
      refine pure_ (i := 18) (N := some 7) (v := ?_) (a' := ?_) #[true, true, true, true, true, true, true, true, true, true, true, true, true, true, true, true, true, true, true] rfl rfl (any_of HT_.out (by kernel_rfl)) (fun _ _ _ h => h) (Or.inl ⟨zq84, ?_⟩) ?_ ?_
      rotate_left
      ·intro w'
       go_simp
       with_reducible rfl
      rotate_left
      ·simp only [Act.put, List.setIfInBounds_toArray, List.set_cons_zero, List.set_cons_succ, i64_w, i32_w]
       rfl
      refine done_ (done_of HT_.out (by kernel_rfl)) ?_
      try go_wp2
      refine bodyPost_ret (results_list (rs := [.tmp 4, .tmp 5, .tmp 6, .tmp 7]) rfl zq134 (.tmp (.tmp (.tmp (.tmp .nil))))) rfl ?_
      exact ⟨_, (by first | rfl | (simp [errW_none, errW_some] <;> rfl) | (simp only [← hji10, ← hji51]; first | rfl | (simp [errW_none, errW_some] <;> rfl)) | (simp [*, errW_none, errW_some] <;> rfl)), (by (with_reducible repeat (first | apply Kd.R_alloc | apply Kd.R_drewN | apply Kd.R_drew)); exact HO535.out), zq0⟩

end Go.Proofs.Ytkcgghgkmgbphaa.PFnVals
