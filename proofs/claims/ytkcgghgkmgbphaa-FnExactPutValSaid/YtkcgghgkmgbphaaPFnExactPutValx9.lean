-- WRITTEN BY a turned copy of the kit's printer (wip/patch_print.py), for this claim
import Derived.Test.YtkcgghgkmgbphaaPFnExactPutValx0
import Derived.Test.YtkcgghgkmgbphaaPFnExactPutValx1
import Derived.Test.YtkcgghgkmgbphaaPFnExactPutValx3
import Derived.Test.YtkcgghgkmgbphaaPFnExactPutValx4
import Derived.Test.YtkcgghgkmgbphaaPFnExactPutValx7
import Derived.Test.YtkcgghgkmgbphaaPFnExactPutValx8
namespace Go.Proofs.Ytkcgghgkmgbphaa.PFnExactPutVal
open Go.RowKit Go.Proofs.YtkcgghgkmgbphaaW.PrintWords Go.Proofs.YtkcgghgkmgbphaaW.PrintLast Go.Proofs.YtkcgghgkmgbphaaW.PrintMore
attribute [local go_sem] max2_int min2_int max_two min_two max_three min_three max_four min_four   -- for this text's walks alone
set_option linter.unusedVariables false
set_option linter.unusedSimpArgs false

attribute [local go_sem] cell_setCell_m
/-! ### laws_FnExactPutVal: function 9 -/
def laws_FnExactPutVal.j0 : Nat → List Int → List Int → List Int → Bool → Int → Int → ByteArray → List Int → Option (Bool)
 | 0, _, _, _, _, _, _, _, _ => none
 | k + 1, x0, x6, x9, x61, x321000, x321001, x321002, x321003 => if x61 = true then (none) else ((laws_markByteS.f k x9 1).bind fun bt364 => ((laws_heldByteS.f k bt364.2 1).bind fun t366 => (if t366 < 0 then (none) else (if t366 = bt364.1 then ((laws_toByteS.f k x0).bind fun t367 => ((laws_toVal.f k x321000 x321001 x321002 x321003).bind fun bt370 => ((impl_PutVal.f k t367 bt370.1 bt370.2.1 bt370.2.2.1 bt370.2.2.2).bind fun t376 => ((laws_eqByteS.f k t376 x6).bind fun t379 => (if t379 = true then ((laws_heldByteS.f k bt364.2 1).bind fun t380 => (if t380 < 0 then (none) else (if t380 = bt364.1 then (some true) else (none)))) else (none)))))) else (none)))))
def laws_FnExactPutVal.f (k : Nat) (l0 : List Int) (a1_0 : Int) (a1_1 : Int) (a1_2 : ByteArray) (l1_3 : List Int) : Option (Bool) := if (l0.length : Int) > 1048576 then (some true) else ((laws_szVal.f a1_0 a1_1 a1_2 l1_3 1048576).bind fun t321 => (if t321 < 0 then (some true) else ((laws_toByteS.f k l0).bind fun t322 => ((laws_toVal.f k a1_0 a1_1 a1_2 l1_3).bind fun bt325 => ((spec_PutVal.f k t322 bt325.1 bt325.2.1 bt325.2.2.1 bt325.2.2.2).bind fun t331 => ((laws_toByteS.f k l0).bind fun t334 => ((laws_toVal.f k a1_0 a1_1 a1_2 l1_3).bind fun bt337 => ((impl_PutVal.f k t334 bt337.1 bt337.2.1 bt337.2.2.1 bt337.2.2.2).bind fun t344 => ((laws_eqByteS.f k t344 t331).bind fun t347 => (if t347 = true then ((laws_toByteS.f k l0).bind fun t348 => ((laws_eqByteS.f k t334 t348).bind fun t351 => (if t351 = true then ((laws_toVal.f k a1_0 a1_1 a1_2 l1_3).bind fun bt352 => ((laws_eqVal.f k bt337.1 bt337.2.1 bt337.2.2.1 bt337.2.2.2 bt352.1 bt352.2.1 bt352.2.2.1 bt352.2.2.2).bind fun t358 => (if t358 = true then ((laws_markByteS.f k t334 1).bind fun bt359 => ((laws_markVal.f k bt337.1 bt337.2.1 bt337.2.2.1 bt337.2.2.2 bt359.1).bind fun bt361 => (if bt361.1 < 0 then (laws_FnExactPutVal.j0 k l0 t331 t344 true a1_0 a1_1 a1_2 l1_3) else ((laws_eqByteS.f k t344 t331).bind fun t363 => (laws_FnExactPutVal.j0 k l0 t331 t344 (!t363) a1_0 a1_1 a1_2 l1_3))))) else (none)))) else (none)))) else (none)))))))))))
theorem laws_FnExactPutVal.mono_l : ∀ k, (∀ y0 y1 y2 y3 y4 y5 y6 y7, LeO (laws_FnExactPutVal.j0 k y0 y1 y2 y3 y4 y5 y6 y7) (laws_FnExactPutVal.j0 (k + 1) y0 y1 y2 y3 y4 y5 y6 y7))
 | 0 => fun _ _ _ _ _ _ _ _ r h => by simp [laws_FnExactPutVal.j0] at h
 | k + 1 => by
  have ih0 := laws_FnExactPutVal.mono_l k
  ·intro y0 y1 y2 y3 y4 y5 y6 y7
   unfold laws_FnExactPutVal.j0
   have m0_ := @impl_PutVal.mono
   have m1_ := @laws_eqByteS.mono
   have m2_ := @laws_eqVal.mono
   have m3_ := @laws_heldByteS.mono
   have m4_ := @laws_markByteS.mono
   have m5_ := @laws_markVal.mono
   have m6_ := @laws_toByteS.mono
   have m7_ := @laws_toVal.mono
   have m8_ := @spec_PutVal.mono
   exact zR
theorem laws_FnExactPutVal.mono : ∀ a0 a1 a2 a3 a4 k, LeO (laws_FnExactPutVal.f k a0 a1 a2 a3 a4) (laws_FnExactPutVal.f (k + 1) a0 a1 a2 a3 a4) := by
 intro a0 a1 a2 a3 a4 k
 have ih0 := laws_FnExactPutVal.mono_l k
 unfold laws_FnExactPutVal.f
 have m0_ := @impl_PutVal.mono
 have m1_ := @laws_eqByteS.mono
 have m2_ := @laws_eqVal.mono
 have m3_ := @laws_heldByteS.mono
 have m4_ := @laws_markByteS.mono
 have m5_ := @laws_markVal.mono
 have m6_ := @laws_toByteS.mono
 have m7_ := @laws_toVal.mono
 have m8_ := @spec_PutVal.mono
 exact zR
set_option maxHeartbeats 8000000 in
set_option maxRecDepth 100000 in
theorem laws_FnExactPutVal.calls (k : Nat) (A0 : Option Addr) (c0 : Nat) (l0 : List Int) (a1_0 : Int) (a1_1 : Int) (a1_2 : ByteArray) (A1_3 : Option Addr) (c1_3 : Nat) (l1_3 : List Int) (r : Bool) (w : World) (hr0 : Kd.C (Kd.int .u8) w A0 l0.length l0) (hc0 : l0.length ≤ c0) (hr1_3 : Kd.C (Kd.int .i64) w A1_3 l1_3.length l1_3) (hc1_3 : l1_3.length ≤ c1_3) (h : laws_FnExactPutVal.f k l0 a1_0 a1_1 a1_2 l1_3 = some r) :
  Calls Try.prog 9 #[.slice A0 l0.length c0, .agg #[.int .i64 a1_0, .int .i64 a1_1, .string a1_2, .slice A1_3 l1_3.length c1_3]] w fun e w' => e = .returned (.bool r) ∧ Below w.heap.size w w' := by
 have hu73 := Try.underlying73
 have hu76 := Try.underlying76
 have HR0 := zA hr0
 have HC0 := zA hc0
 clear hr0 hc0
 have HR1_3 := zA hr1_3
 have HC1_3 := zA hc1_3
 clear hr1_3 hc1_3
 have HB := zA (Below.refl w.heap.size w)
 unfold laws_FnExactPutVal.f at h
 have H := h
 clear h
 have HC3 := zA H
 clear H
 go_enter Try.func9, Try.ntmps9
 go_upto_region 0 with (fail)
 have H := HC3.out
 clear HC3
 have HC4 := zA H
 clear H
 go_upto_region 1 with (first | ((with_reducible refine gate_dst (N := 3) rfl ?_); refine box_event ?hg (N := 3) ?hd (cs := #[.int .i64 a1_0, .int .i64 a1_1, .string a1_2, .slice A1_3 l1_3.length c1_3]) (t := 73) ?hr ?_; (case hd => rfl); (case hg => rfl); (case hr => first | (go_simp; done) | (go_simp; rfl)); intro gb320 hg w5 hbox hb; have BK320 := zA (hbox); have GW320 := zA ((zq6 : w.heap.size ≤ gb320)); have GE320 := zA ((zq6 : w.heap.size ≤ gb320)); replace HB := zA (below_step zq0 hb); clear hb hbox hg))
 (try simp only [Act.put, List.setIfInBounds_toArray, List.set_cons_zero, List.set_cons_succ])
 have H := HC4.out
 clear HC4
 by_cases c6 : (l0.length : Int) > 1048576
 ·rw [if_pos c6] at H
  have c6b0 : decide (1048576 < (l0.length : Int)) = true := decide_eq_true c6
  have c6b1 : decide (1048576 < l0.length) = true := decide_eq_true zq57
  clear c6
  have HC7 := zA H
  clear H
  go_upto_region 2 with (fail)
  have H := HC7.out
  clear HC7
  obtain rfl := Option.some.inj H
  go_wp2
  go_ret
  exact ⟨zq2, zq13⟩
 ·rw [if_neg c6] at H
  have c6b0 : decide (1048576 < (l0.length : Int)) = false := decide_eq_false c6
  have c6b1 : decide (1048576 < l0.length) = false := decide_eq_false zq57
  clear c6
  have HC8 := zA H
  clear H
  go_upto_region 3 with (fail)
  have H := HC8.out
  clear HC8
  have HC9 := zA H
  clear H
  go_upto_region 4 with (fail)
  have H := HC9.out
  clear HC9
  obtain ⟨t321, A10, H⟩ := zB H
  try dsimp only at H
  have HC11 := zA H
  clear H
  have hcz12_0 : w5.cell? ⟨gb320, 0, none⟩ = some (.int .i64 a1_0) := (blk_cell BK320.out 0).trans rfl
  have hcz12_1 : w5.cell? ⟨gb320, 1, none⟩ = some (.int .i64 a1_1) := (blk_cell BK320.out 1).trans rfl
  have hcz12_2 : w5.cell? ⟨gb320, 2, none⟩ = some (.string a1_2) := (blk_cell BK320.out 2).trans rfl
  have hcz12_3 : w5.cell? ⟨gb320, 3, none⟩ = some (.slice A1_3 l1_3.length c1_3) := (blk_cell BK320.out 3).trans rfl
  have hfz12_0 := blk_frozen BK320.out 0
  have hfz12_1 := blk_frozen BK320.out 1
  have hfz12_2 := blk_frozen BK320.out 2
  have hfz12_3 := blk_frozen BK320.out 3
  go_upto_region 5 with (first | ((with_reducible refine gate_callee (f := 67) rfl ?_); refine goesL_ (some 19) rfl rfl Try.func67 (by kernel_rfl) rfl #[.agg #[.int .i64 a1_0, .int .i64 a1_1, .string a1_2, .slice A1_3 l1_3.length c1_3], .int .i64 1048576] rfl zq1 ?_; (with_reducible refine (laws_szVal.calls a1_0 a1_1 a1_2 _ _ l1_3 1048576 t321 _ ?side1 ?side2 A10.out).mono ?_); (case side1 => repeat (first | exact (Kd.C_below HR1_3.out HB.out) | (with_reducible refine Kd.C_alloc ?_ _) | (with_reducible refine Kd.C_drewN ?_ _) | (with_reducible refine Kd.C_drew ?_))); (case side2 => exact HC1_3.out); rintro e w13 ⟨rfl, hb⟩; refine ⟨_, rfl, ?_⟩; replace BK320 := zA (blk_below (g := gb320) (o := .cells #[.int .i64 a1_0, .int .i64 a1_1, .string a1_2, .slice A1_3 l1_3.length c1_3] 73 (0, 0)) zq11 hb); replace HB := zA (below_step zq13 hb); clear hb))
  (try simp only [Act.put, List.setIfInBounds_toArray, List.set_cons_zero, List.set_cons_succ])
  have H := HC11.out
  clear HC11
  by_cases c14 : t321 < 0
  ·rw [if_pos c14] at H
   have c14b0 : decide (t321 < 0) = true := decide_eq_true c14
   clear c14
   have HC15 := zA H
   clear H
   go_upto_region 6 with (fail)
   have H := HC15.out
   clear HC15
   obtain rfl := Option.some.inj H
   go_wp2
   go_ret
   exact ⟨zq2, zq13⟩
  ·rw [if_neg c14] at H
   have c14b0 : decide (t321 < 0) = false := decide_eq_false c14
   clear c14
   have HC16 := zA H
   clear H
   go_upto_region 7 with (fail)
   have H := HC16.out
   clear HC16
   obtain ⟨t322, A17, H⟩ := zB H
   try dsimp only at H
   obtain ⟨⟨t325, t326, t327, t328⟩, A18, H⟩ := zB H
   try dsimp only at H
   obtain ⟨t331, A19, H⟩ := zB H
   try dsimp only at H
   have HC20 := zA H
   clear H
   try go_wp2
   have n0_ := zA (blk_drew BK320.out)
   have n1_ := zA (below_drew1 HB.out)
   clear BK320
   clear HB
   have BK320 := n0_
   have HB := n1_
   clear n0_ n1_
   refine start_ (n := 6) (S := fun w' => w'.cell? ⟨gb320, 0, none⟩ = some (.int .i64 a1_0) ∧ w'.cell? ⟨gb320, 1, none⟩ = some (.int .i64 a1_1) ∧ w'.cell? ⟨gb320, 2, none⟩ = some (.string a1_2) ∧ w'.cell? ⟨gb320, 3, none⟩ = some (.slice A1_3 l1_3.length c1_3)) (ds := []) #[false, false, false, false, false, false] (by kernel_rfl) rfl rfl ⟨(blk_cell BK320.out 0).trans rfl, (blk_cell BK320.out 1).trans rfl, (blk_cell BK320.out 2).trans rfl, (blk_cell BK320.out 3).trans rfl⟩ (fun hHeld => ?_)
   generalize w13.drew = w21 at BK320 HB hHeld ⊢
   refine pure_ (i := 0) (N := some 22) (v := ?_) (a' := ?_) #[true, false, false, false, false, false] rfl rfl (by kernel_rfl) (fun _ _ _ h => h) (Or.inl ⟨zq72, ?_⟩) ?_ ?_
   rotate_left
   ·intro w'
    go_simp
    with_reducible rfl
   rotate_left
   ·simp only [Act.put, List.setIfInBounds_toArray, List.set_cons_zero, List.set_cons_succ, i64_w, i32_w]
    rfl
   refine take_ (i := 2) (N := some 24) (v := ?_) (a' := ?_) #[true, false, true, false, false, false] rfl rfl (by kernel_rfl) (fun _ _ _ h => h) (Or.inl ⟨zq72, ?_⟩) hHeld ?_ ?_
   rotate_left
   ·rintro w' ⟨s0, s1, s2, s3⟩
    go_simp
    with_reducible rfl
   rotate_left
   ·simp only [Act.put, List.setIfInBounds_toArray, List.set_cons_zero, List.set_cons_succ, i64_w, i32_w]
    rfl
   refine one_ (i := 1) (N := some 23) #[true, true, true, false, false, false] rfl rfl (by kernel_rfl) zq37 (fun K hK => ?_)
   refine goes_ Try.func32 (by kernel_rfl) rfl #[.slice A0 l0.length c0] zq72 rfl rfl zq1 ?_
   with_reducible refine (laws_toByteS.calls k _ _ l0 t322 _ ?side1 ?side2 A17.out).mono ?_
   (case side1 => repeat (first | exact (Kd.C_below HR0.out HB.out) | (with_reducible refine Kd.C_alloc ?_ _) | (with_reducible refine Kd.C_drewN ?_ _) | (with_reducible refine Kd.C_drew ?_)))
   (case side2 => exact HC0.out)
   rintro e w22 ⟨v323, rfl, ho0, hb⟩
   refine ⟨_, rfl, ?_⟩
   have n0_ := zA (Kd.R_lower ho0 (below_size zq13))
   have n1_ := zA (blk_below (g := gb320) (o := .cells #[.int .i64 a1_0, .int .i64 a1_1, .string a1_2, .slice A1_3 l1_3.length c1_3] 73 (0, 0)) zq11 hb)
   have n2_ := zA (below_step zq13 hb)
   clear BK320
   clear HB
   have HO324 := n0_
   have BK320 := n1_
   have HB := n2_
   clear n0_ n1_ n2_
   (try clear hb)
   (try clear hb2)
   (try clear hk)
   (try clear hi)
   (try clear ho0)
   refine hK.out _ _ ⟨(blk_cell BK320.out 0).trans rfl, (blk_cell BK320.out 1).trans rfl, (blk_cell BK320.out 2).trans rfl, (blk_cell BK320.out 3).trans rfl⟩ (fun hHeld => ?_)
   clear hK K
   refine norm_ (a' := ?_) ?_ ?_
   rotate_left
   ·show Act.put _ (some 23) _ = _
    simp only [Act.put, List.setIfInBounds_toArray, List.set_cons_zero, List.set_cons_succ, i64_w, i32_w]
    rfl
   refine one_ (i := 3) (N := some 25) #[true, true, true, true, false, false] rfl rfl (by kernel_rfl) zq37 (fun K hK => ?_)
   refine goes_ Try.func69 (by kernel_rfl) rfl #[.agg #[.int .i64 a1_0, .int .i64 a1_1, .string a1_2, .slice A1_3 l1_3.length c1_3]] zq72 rfl rfl zq1 ?_
   with_reducible refine (laws_toVal.calls k a1_0 a1_1 a1_2 _ _ l1_3 t325 t326 t327 t328 _ ?side1 ?side2 A18.out).mono ?_
   (case side1 => repeat (first | exact (Kd.C_below HR1_3.out HB.out) | (with_reducible refine Kd.C_alloc ?_ _) | (with_reducible refine Kd.C_drewN ?_ _) | (with_reducible refine Kd.C_drew ?_)))
   (case side2 => exact HC1_3.out)
   rintro e w23 ⟨v329, rfl, ho0, hb⟩
   refine ⟨_, rfl, ?_⟩
   have n0_ := zA (Kd.R_below zq18 hb)
   have n1_ := zA (Kd.R_lower ho0 (below_size zq13))
   have n2_ := zA (blk_below (g := gb320) (o := .cells #[.int .i64 a1_0, .int .i64 a1_1, .string a1_2, .slice A1_3 l1_3.length c1_3] 73 (0, 0)) zq11 hb)
   have n3_ := zA (below_step zq13 hb)
   clear HO324
   clear BK320
   clear HB
   have HO324 := n0_
   have HO330 := n1_
   have BK320 := n2_
   have HB := n3_
   clear n0_ n1_ n2_ n3_
   (try clear hb)
   (try clear hb2)
   (try clear hk)
   (try clear hi)
   (try clear ho0)
   obtain ⟨Ao24, co24, eo24⟩ := Kd.R_slice HO324.out
   (first | subst eo24 | (injection eo24 with f1_ f2_ f3_; have f4_ := f1_.symm; have f5_ := f3_.symm; clear f1_ f2_ f3_; subst f4_; subst f5_))
   obtain ⟨Ao25, co25, eo25⟩ := Kd.R_slice HO330.out
   (first | subst eo25 | (injection eo25 with f1_ f2_ f3_; have f4_ := f1_.symm; have f5_ := f3_.symm; clear f1_ f2_ f3_; subst f4_; subst f5_))
   refine hK.out _ _ ⟨(blk_cell BK320.out 0).trans rfl, (blk_cell BK320.out 1).trans rfl, (blk_cell BK320.out 2).trans rfl, (blk_cell BK320.out 3).trans rfl⟩ (fun hHeld => ?_)
   clear hK K
   refine norm_ (a' := ?_) ?_ ?_
   rotate_left
   ·show Act.put _ (some 25) _ = _
    simp only [Act.put, List.setIfInBounds_toArray, List.set_cons_zero, List.set_cons_succ, i64_w, i32_w]
    rfl
   refine one_ (i := 4) (N := some 26) #[true, true, true, true, true, false] rfl rfl (by kernel_rfl) zq37 (fun K hK => ?_)
   refine goes_ Try.func68 (by kernel_rfl) rfl #[.slice Ao24 t322.length co24, .agg #[.int .i64 t325, .int .i64 t326, .string t327, .slice Ao25 t328.length co25]] zq72 rfl rfl zq1 ?_
   with_reducible refine (spec_PutVal.calls k _ _ t322 t325 t326 t327 _ _ t328 t331 _ ?side1 ?side2 ?side3 ?side4 A19.out).mono ?_
   (case side1 => repeat (first | exact (Kd.R_reads' HO324.out).2.2 | (with_reducible refine Kd.C_alloc ?_ _) | (with_reducible refine Kd.C_drewN ?_ _) | (with_reducible refine Kd.C_drew ?_)))
   (case side2 => exact (Kd.R_reads' HO324.out).2.1)
   (case side3 => repeat (first | exact (Kd.R_reads' HO330.out).2.2 | (with_reducible refine Kd.C_alloc ?_ _) | (with_reducible refine Kd.C_drewN ?_ _) | (with_reducible refine Kd.C_drew ?_)))
   (case side4 => exact (Kd.R_reads' HO330.out).2.1)
   rintro e w26 ⟨v332, rfl, ho0, hb⟩
   refine ⟨_, rfl, ?_⟩
   have n0_ := zA (Kd.R_elder' zq18 (Kd.R_base ho0) hb)
   have n1_ := zA (Kd.R_below zq22 hb)
   have n2_ := zA (Kd.R_lower (Kd.R_new' ho0 (Kd.R_lt zq18)) (below_size zq13))
   have n3_ := zA (blk_below (g := gb320) (o := .cells #[.int .i64 a1_0, .int .i64 a1_1, .string a1_2, .slice A1_3 l1_3.length c1_3] 73 (0, 0)) zq11 hb)
   have n4_ := zA (below_step zq13 hb)
   clear HO324
   clear HO330
   clear BK320
   clear HB
   have HO324 := n0_
   have HO330 := n1_
   have HO333 := n2_
   have BK320 := n3_
   have HB := n4_
   clear n0_ n1_ n2_ n3_ n4_
   (try clear hb)
   (try clear hb2)
   (try clear hk)
   (try clear hi)
   (try clear ho0)
   refine hK.out _ _ ⟨(blk_cell BK320.out 0).trans rfl, (blk_cell BK320.out 1).trans rfl, (blk_cell BK320.out 2).trans rfl, (blk_cell BK320.out 3).trans rfl⟩ (fun hHeld => ?_)
   clear hK K
   refine norm_ (a' := ?_) ?_ ?_
   rotate_left
   ·show Act.put _ (some 26) _ = _
    simp only [Act.put, List.setIfInBounds_toArray, List.set_cons_zero, List.set_cons_succ, i64_w, i32_w]
    rfl
   refine pure_ (i := 5) (N := some 6) (v := ?_) (a' := ?_) #[true, true, true, true, true, true] rfl rfl (by kernel_rfl) (fun _ _ _ h => h) (Or.inl ⟨zq72, ?_⟩) ?_ ?_
   rotate_left
   ·intro w'
    go_simp
    with_reducible rfl
   rotate_left
   ·simp only [Act.put, List.setIfInBounds_toArray, List.set_cons_zero, List.set_cons_succ, i64_w, i32_w]
    rfl
   refine done_ (by kernel_rfl) ?_
   go_upto_region 8 with (fail)
   have H := HC20.out
   clear HC20
   obtain ⟨t334, A27, H⟩ := zB H
   try dsimp only at H
   have HC28 := zA H
   clear H
   go_upto_region 9 with (first | ((with_reducible refine gate_callee (f := 32) rfl ?_); refine goesL_ (some 28) rfl rfl Try.func32 (by kernel_rfl) rfl #[.slice A0 l0.length c0] rfl zq1 ?_; (with_reducible refine (laws_toByteS.calls k _ _ l0 t334 _ ?side1 ?side2 A27.out).mono ?_); (case side1 => repeat (first | exact (Kd.C_below HR0.out HB.out) | (with_reducible refine Kd.C_alloc ?_ _) | (with_reducible refine Kd.C_drewN ?_ _) | (with_reducible refine Kd.C_drew ?_))); (case side2 => exact HC0.out); rintro e w29 ⟨v335, rfl, ho0, hb⟩; refine ⟨_, rfl, ?_⟩; replace HO330 := zA (Kd.R_below zq22 hb); have HO336 := zA (Kd.R_lower (Kd.R_new' (Kd.R_new' ho0 (Kd.R_lt zq18)) (Kd.R_lt zq24)) (below_size zq13)); replace HO324 := zA (Kd.R_elder' zq18 (Kd.R_base ho0) hb); replace HO333 := zA (Kd.R_elder' zq24 (Kd.R_base ho0) hb); replace BK320 := zA (blk_below (g := gb320) (o := .cells #[.int .i64 a1_0, .int .i64 a1_1, .string a1_2, .slice A1_3 l1_3.length c1_3] 73 (0, 0)) zq11 hb); replace HB := zA (below_step zq13 hb); clear hb ho0))
   (try simp only [Act.put, List.setIfInBounds_toArray, List.set_cons_zero, List.set_cons_succ])
   have H := HC28.out
   clear HC28
   obtain ⟨⟨t337, t338, t339, t340⟩, A30, H⟩ := zB H
   try dsimp only at H
   have HC31 := zA H
   clear H
   have hcz32_0 : w29.cell? ⟨gb320, 0, none⟩ = some (.int .i64 a1_0) := (blk_cell BK320.out 0).trans rfl
   have hcz32_1 : w29.cell? ⟨gb320, 1, none⟩ = some (.int .i64 a1_1) := (blk_cell BK320.out 1).trans rfl
   have hcz32_2 : w29.cell? ⟨gb320, 2, none⟩ = some (.string a1_2) := (blk_cell BK320.out 2).trans rfl
   have hcz32_3 : w29.cell? ⟨gb320, 3, none⟩ = some (.slice A1_3 l1_3.length c1_3) := (blk_cell BK320.out 3).trans rfl
   have hfz32_0 := blk_frozen BK320.out 0
   have hfz32_1 := blk_frozen BK320.out 1
   have hfz32_2 := blk_frozen BK320.out 2
   have hfz32_3 := blk_frozen BK320.out 3
   go_upto_region 10 with (first | ((with_reducible refine gate_callee (f := 69) rfl ?_); refine goesL_ (some 30) rfl rfl Try.func69 (by kernel_rfl) rfl #[.agg #[.int .i64 a1_0, .int .i64 a1_1, .string a1_2, .slice A1_3 l1_3.length c1_3]] rfl zq1 ?_; (with_reducible refine (laws_toVal.calls k a1_0 a1_1 a1_2 _ _ l1_3 t337 t338 t339 t340 _ ?side1 ?side2 A30.out).mono ?_); (case side1 => repeat (first | exact (Kd.C_below HR1_3.out HB.out) | (with_reducible refine Kd.C_alloc ?_ _) | (with_reducible refine Kd.C_drewN ?_ _) | (with_reducible refine Kd.C_drew ?_))); (case side2 => exact HC1_3.out); rintro e w33 ⟨v341, rfl, ho0, hb⟩; refine ⟨_, rfl, ?_⟩; replace HO324 := zA (Kd.R_below zq18 hb); replace HO333 := zA (Kd.R_below zq24 hb); replace HO336 := zA (Kd.R_below zq27 hb); have HO342 := zA (Kd.R_lower (Kd.R_new' ho0 (Kd.R_lt zq22)) (below_size zq13)); replace HO330 := zA (Kd.R_elder' zq22 (Kd.R_base ho0) hb); replace BK320 := zA (blk_below (g := gb320) (o := .cells #[.int .i64 a1_0, .int .i64 a1_1, .string a1_2, .slice A1_3 l1_3.length c1_3] 73 (0, 0)) zq11 hb); replace HB := zA (below_step zq13 hb); clear hb ho0) | ((with_reducible refine gate_dst (N := 8) rfl ?_); refine box_event ?hg (N := 8) ?hd (cs := #[.int .i64 0, .int .i64 0, .string (⟨#[]⟩ : ByteArray), .slice none 0 0]) (t := 76) ?hr ?_; (case hd => rfl); (case hg => rfl); (case hr => first | (go_simp; done) | (go_simp; rfl)); intro gb343 hg w34 hbox hb; replace HO324 := zA (Kd.R_below zq18 hb); replace HO330 := zA (Kd.R_below zq22 hb); replace HO333 := zA (Kd.R_below zq24 hb); replace HO336 := zA (Kd.R_below zq27 hb); replace HO342 := zA (Kd.R_below zq28 hb); have BK343 := zA (hbox); have GW343 := zA ((zq70 : w.heap.size ≤ gb343)); have GE343 := zA ((zq70 : w.heap.size ≤ gb343)); replace HB := zA (below_step zq13 hb); have NB320_343 := zA ((by rw [hg]; exact Nat.ne_of_lt (blk_lt (g := gb320) (o := .cells #[.int .i64 a1_0, .int .i64 a1_1, .string a1_2, .slice A1_3 l1_3.length c1_3] 73 (0, 0)) zq11) : gb320 ≠ gb343)); have NB343_320 := zA ((by rw [hg]; exact Nat.ne_of_gt (blk_lt (g := gb320) (o := .cells #[.int .i64 a1_0, .int .i64 a1_1, .string a1_2, .slice A1_3 l1_3.length c1_3] 73 (0, 0)) zq11) : gb343 ≠ gb320)); replace BK320 := zA (blk_below (g := gb320) (o := .cells #[.int .i64 a1_0, .int .i64 a1_1, .string a1_2, .slice A1_3 l1_3.length c1_3] 73 (0, 0)) zq11 hb); clear hb hbox hg; have hnb35 := NB343_320.out; have hnc35 := NB320_343.out; have hcz36_0 : w34.cell? ⟨gb343, 0, none⟩ = some (.int .i64 0) := (blk_cell BK343.out 0).trans rfl; have hcz36_1 : w34.cell? ⟨gb343, 1, none⟩ = some (.int .i64 0) := (blk_cell BK343.out 1).trans rfl; have hcz36_2 : w34.cell? ⟨gb343, 2, none⟩ = some (.string (⟨#[]⟩ : ByteArray)) := (blk_cell BK343.out 2).trans rfl; have hcz36_3 : w34.cell? ⟨gb343, 3, none⟩ = some (.slice none 0 0) := (blk_cell BK343.out 3).trans rfl; have hfz36_0 := blk_frozen BK343.out 0; have hfz36_1 := blk_frozen BK343.out 1; have hfz36_2 := blk_frozen BK343.out 2; have hfz36_3 := blk_frozen BK343.out 3; obtain ⟨Ao37, co37, eo37⟩ := Kd.R_slice HO342.out; subst eo37))
   (try simp only [Act.put, List.setIfInBounds_toArray, List.set_cons_zero, List.set_cons_succ])
   have H := HC31.out
   clear HC31
   obtain ⟨t344, A38, H⟩ := zB H
   try dsimp only at H
   have HC39 := zA H
   clear H
   have hnb40 := NB343_320.out
   have hnc40 := NB320_343.out
   have hcz41_0 : w34.cell? ⟨gb343, 0, none⟩ = some (.int .i64 0) := (blk_cell BK343.out 0).trans rfl
   have hcz41_1 : w34.cell? ⟨gb343, 1, none⟩ = some (.int .i64 0) := (blk_cell BK343.out 1).trans rfl
   have hcz41_2 : w34.cell? ⟨gb343, 2, none⟩ = some (.string (⟨#[]⟩ : ByteArray)) := (blk_cell BK343.out 2).trans rfl
   have hcz41_3 : w34.cell? ⟨gb343, 3, none⟩ = some (.slice none 0 0) := (blk_cell BK343.out 3).trans rfl
   have hfz41_0 := blk_frozen BK343.out 0
   have hfz41_1 := blk_frozen BK343.out 1
   have hfz41_2 := blk_frozen BK343.out 2
   have hfz41_3 := blk_frozen BK343.out 3
   obtain ⟨Ao42, co42, eo42⟩ := Kd.R_slice HO336.out
   subst eo42
   go_upto_region 11 with (first | ((with_reducible refine gate_callee (f := 70) rfl ?_); refine goesL_ (some 33) rfl rfl Try.func70 (by kernel_rfl) rfl #[.slice Ao42 t334.length co42, .agg #[.int .i64 t337, .int .i64 t338, .string t339, .slice Ao37 t340.length co37]] rfl zq1 ?_; (with_reducible refine (impl_PutVal.calls k _ _ t334 t337 t338 t339 _ _ t340 t344 _ ?side1 ?side2 ?side3 ?side4 A38.out).mono ?_); (case side1 => refine (Kd.R_reads' (e := 5) (base := w.heap.size) (ok := fun k_ => ((True ∧ some k_ ≠ (.slice Ao24 t322.length co24 : Value).ownBlock) ∧ some k_ ≠ (v332 : Value).ownBlock)) (n := t334.length) (c := co42) ?_).2.2; exact zq26); (case side2 => exact (Kd.R_reads' HO336.out).2.1); (case side3 => refine (Kd.R_reads' (e := 3) (base := w.heap.size) (ok := fun k_ => (True ∧ some k_ ≠ (.slice Ao25 t328.length co25 : Value).ownBlock)) (n := t340.length) (c := co37) ?_).2.2; exact zq34); (case side4 => exact (Kd.R_reads' HO342.out).2.1); rintro e w43 ⟨v345, rfl, ho0, hb⟩; refine ⟨_, rfl, ?_⟩; replace HO330 := zA (Kd.R_below (by (with_reducible repeat (first | apply Kd.R_alloc | apply Kd.R_drewN | apply Kd.R_drew)); exact (Kd.R_mono (Kd.R_far (p := ⟨gb343, 3, none⟩) (Kd.R_far (p := ⟨gb343, 2, none⟩) (Kd.R_far (p := ⟨gb343, 1, none⟩) (Kd.R_far (p := ⟨gb343, 0, none⟩) (Kd.R_types HO330.out BK343.out zq37) (fun _ hk => hk.2) (.int .i64 t337)) (fun _ hk => hk.2) (.int .i64 t338)) (fun _ hk => hk.2) (.string t339)) (fun _ hk => hk.2) (.slice Ao37 t340.length co37)) (fun _ h_ => h_.1))) hb); replace HO342 := zA (Kd.R_below zq34 hb); have HO346 := zA (Kd.R_lower (Kd.R_new' (Kd.R_new' (Kd.R_new' ho0 (Kd.R_lt zq35)) (Kd.R_lt zq36)) (Kd.R_lt zq26)) (below_size zq5)); replace HO324 := zA (Kd.R_elder' zq35 (Kd.R_base ho0) hb); replace HO333 := zA (Kd.R_elder' zq36 (Kd.R_base ho0) hb); replace HO336 := zA (Kd.R_elder' zq26 (Kd.R_base ho0) hb); replace BK320 := zA (blk_below (g := gb320) (o := .cells #[.int .i64 a1_0, .int .i64 a1_1, .string a1_2, .slice A1_3 l1_3.length c1_3] 73 (0, 0)) (by (with_reducible repeat (first | refine blk_drewN ?_ _ | refine blk_drew ?_ | refine blk_alloc ?_ _)); refine blk_far ?_ NB320_343.out _; (with_reducible repeat (first | refine blk_drewN ?_ _ | refine blk_drew ?_ | refine blk_alloc ?_ _)); refine blk_far ?_ NB320_343.out _; (with_reducible repeat (first | refine blk_drewN ?_ _ | refine blk_drew ?_ | refine blk_alloc ?_ _)); refine blk_far ?_ NB320_343.out _; (with_reducible repeat (first | refine blk_drewN ?_ _ | refine blk_drew ?_ | refine blk_alloc ?_ _)); refine blk_far ?_ NB320_343.out _; (with_reducible repeat (first | refine blk_drewN ?_ _ | refine blk_drew ?_ | refine blk_alloc ?_ _)); exact BK320.out) hb); replace BK343 := zA (blk_below (g := gb343) (o := .cells #[.int .i64 t337, .int .i64 t338, .string t339, .slice Ao37 t340.length co37] 76 (0, 0)) (by (with_reducible repeat (first | refine blk_drewN ?_ _ | refine blk_drew ?_ | refine blk_alloc ?_ _)); refine blk_put (cs := #[.int .i64 t337, .int .i64 t338, .string t339, .slice none 0 0]) ?_ 3 _ rfl; (with_reducible repeat (first | refine blk_drewN ?_ _ | refine blk_drew ?_ | refine blk_alloc ?_ _)); refine blk_put (cs := #[.int .i64 t337, .int .i64 t338, .string (⟨#[]⟩ : ByteArray), .slice none 0 0]) ?_ 2 _ rfl; (with_reducible repeat (first | refine blk_drewN ?_ _ | refine blk_drew ?_ | refine blk_alloc ?_ _)); refine blk_put (cs := #[.int .i64 t337, .int .i64 0, .string (⟨#[]⟩ : ByteArray), .slice none 0 0]) ?_ 1 _ rfl; (with_reducible repeat (first | refine blk_drewN ?_ _ | refine blk_drew ?_ | refine blk_alloc ?_ _)); refine blk_put (cs := #[.int .i64 0, .int .i64 0, .string (⟨#[]⟩ : ByteArray), .slice none 0 0]) ?_ 0 _ rfl; (with_reducible repeat (first | refine blk_drewN ?_ _ | refine blk_drew ?_ | refine blk_alloc ?_ _)); exact BK343.out) hb); replace HB := zA (below_step zq5 hb); clear hb ho0))
   (try simp only [Act.put, List.setIfInBounds_toArray, List.set_cons_zero, List.set_cons_succ])
   have H := HC39.out
   clear HC39
   obtain ⟨t347, A44, H⟩ := zB H
   try dsimp only at H
   by_cases c45 : t347 = true
   ·subst c45
    rw [if_pos rfl] at H
    have HC46 := zA H
    clear H
    obtain ⟨Ao47, co47, eo47⟩ := Kd.R_slice HO346.out
    subst eo47
    obtain ⟨Ao48, co48, eo48⟩ := Kd.R_slice HO333.out
    subst eo48
    go_upto_region 13 with (first | ((with_reducible refine gate_callee (f := 35) rfl ?_); refine goesL_ (some 36) rfl rfl Try.func35 (by kernel_rfl) rfl #[.slice Ao47 t344.length co47, .slice Ao48 t331.length co48] rfl zq1 ?_; (with_reducible refine (laws_eqByteS.calls k _ _ t344 _ _ t331 true _ ?side1 ?side2 ?side3 ?side4 A44.out).mono ?_); (case side1 => repeat (first | exact (Kd.R_reads' HO346.out).2.2 | (with_reducible refine Kd.C_alloc ?_ _) | (with_reducible refine Kd.C_drewN ?_ _) | (with_reducible refine Kd.C_drew ?_))); (case side2 => exact (Kd.R_reads' HO346.out).2.1); (case side3 => repeat (first | exact (Kd.R_reads' HO333.out).2.2 | (with_reducible refine Kd.C_alloc ?_ _) | (with_reducible refine Kd.C_drewN ?_ _) | (with_reducible refine Kd.C_drew ?_))); (case side4 => exact (Kd.R_reads' HO333.out).2.1); rintro e w' ⟨rfl, ⟨nd, rfl⟩⟩; refine ⟨_, rfl, ?_⟩))
    (try simp only [Act.put, List.setIfInBounds_toArray, List.set_cons_zero, List.set_cons_succ])
    (try (rw [drewN_self w43]; generalize hq_ : World.drewN w43 _ = w43; replace HO324 := zA (Kd.R_at hq_ HO324.out); replace HO330 := zA (Kd.R_at hq_ HO330.out); replace HO333 := zA (Kd.R_at hq_ HO333.out); replace HO336 := zA (Kd.R_at hq_ HO336.out); replace HO342 := zA (Kd.R_at hq_ HO342.out); replace HO346 := zA (Kd.R_at hq_ HO346.out); replace BK320 := zA (blk_at hq_ BK320.out); replace BK343 := zA (blk_at hq_ BK343.out); replace HB := zA (below_at hq_ HB.out); clear hq_))
    have H := HC46.out
    clear HC46
    obtain ⟨t348, A49, H⟩ := zB H
    try dsimp only at H
    obtain ⟨t351, A50, H⟩ := zB H
    try dsimp only at H
    by_cases c51 : t351 = true
    ·subst c51
     rw [if_pos rfl] at H
     have HC52 := zA H
     clear H
     go_upto_region 15 with (first | ((with_reducible refine gate_callee (f := 32) rfl ?_); refine goesL_ (some 40) rfl rfl Try.func32 (by kernel_rfl) rfl #[.slice A0 l0.length c0] rfl zq1 ?_; (with_reducible refine (laws_toByteS.calls k _ _ l0 t348 _ ?side1 ?side2 A49.out).mono ?_); (case side1 => repeat (first | exact (Kd.C_below HR0.out HB.out) | (with_reducible refine Kd.C_alloc ?_ _) | (with_reducible refine Kd.C_drewN ?_ _) | (with_reducible refine Kd.C_drew ?_))); (case side2 => exact HC0.out); rintro e w53 ⟨v349, rfl, ho0, hb⟩; refine ⟨_, rfl, ?_⟩; replace HO330 := zA (Kd.R_below zq22 hb); replace HO342 := zA (Kd.R_below zq28 hb); have HO350 := zA (Kd.R_lower (Kd.R_new' (Kd.R_new' (Kd.R_new' (Kd.R_new' ho0 (Kd.R_lt zq18)) (Kd.R_lt zq24)) (Kd.R_lt zq27)) (Kd.R_lt zq30)) (below_size zq5)); replace HO324 := zA (Kd.R_elder' zq18 (Kd.R_base ho0) hb); replace HO333 := zA (Kd.R_elder' zq24 (Kd.R_base ho0) hb); replace HO336 := zA (Kd.R_elder' zq27 (Kd.R_base ho0) hb); replace HO346 := zA (Kd.R_elder' zq30 (Kd.R_base ho0) hb); replace BK320 := zA (blk_below (g := gb320) (o := .cells #[.int .i64 a1_0, .int .i64 a1_1, .string a1_2, .slice A1_3 l1_3.length c1_3] 73 (0, 0)) zq11 hb); replace BK343 := zA (blk_below (g := gb343) (o := .cells #[.int .i64 t337, .int .i64 t338, .string t339, .slice Ao37 t340.length co37] 76 (0, 0)) zq17 hb); replace HB := zA (below_step zq5 hb); clear hb ho0; obtain ⟨Ao54, co54, eo54⟩ := Kd.R_slice HO350.out; subst eo54) | ((with_reducible refine gate_callee (f := 35) rfl ?_); refine goesL_ (some 41) rfl rfl Try.func35 (by kernel_rfl) rfl #[.slice Ao42 t334.length co42, .slice Ao54 t348.length co54] rfl zq1 ?_; (with_reducible refine (laws_eqByteS.calls k _ _ t334 _ _ t348 true _ ?side1 ?side2 ?side3 ?side4 A50.out).mono ?_); (case side1 => repeat (first | exact (Kd.R_reads' HO336.out).2.2 | (with_reducible refine Kd.C_alloc ?_ _) | (with_reducible refine Kd.C_drewN ?_ _) | (with_reducible refine Kd.C_drew ?_))); (case side2 => exact (Kd.R_reads' HO336.out).2.1); (case side3 => repeat (first | exact (Kd.R_reads' HO350.out).2.2 | (with_reducible refine Kd.C_alloc ?_ _) | (with_reducible refine Kd.C_drewN ?_ _) | (with_reducible refine Kd.C_drew ?_))); (case side4 => exact (Kd.R_reads' HO350.out).2.1); rintro e w' ⟨rfl, ⟨nd, rfl⟩⟩; refine ⟨_, rfl, ?_⟩))
     (try simp only [Act.put, List.setIfInBounds_toArray, List.set_cons_zero, List.set_cons_succ])
     (try (rw [drewN_self w53]; generalize hq_ : World.drewN w53 _ = w53; replace HO324 := zA (Kd.R_at hq_ HO324.out); replace HO330 := zA (Kd.R_at hq_ HO330.out); replace HO333 := zA (Kd.R_at hq_ HO333.out); replace HO336 := zA (Kd.R_at hq_ HO336.out); replace HO342 := zA (Kd.R_at hq_ HO342.out); replace HO346 := zA (Kd.R_at hq_ HO346.out); replace HO350 := zA (Kd.R_at hq_ HO350.out); replace BK320 := zA (blk_at hq_ BK320.out); replace BK343 := zA (blk_at hq_ BK343.out); replace HB := zA (below_at hq_ HB.out); clear hq_))
     have H := HC52.out
     clear HC52
     obtain ⟨⟨t352, t353, t354, t355⟩, A55, H⟩ := zB H
     try dsimp only at H
     obtain ⟨t358, A56, H⟩ := zB H
     try dsimp only at H
     by_cases c57 : t358 = true
     ·subst c57
      rw [if_pos rfl] at H
      have HC58 := zA H
      clear H
      try go_wp2
      have n0_ := zA (Kd.R_drew HO324.out)
      have n1_ := zA (Kd.R_drew HO330.out)
      have n2_ := zA (Kd.R_drew HO333.out)
      have n3_ := zA (Kd.R_drew HO336.out)
      have n4_ := zA (Kd.R_drew HO342.out)
      have n5_ := zA (Kd.R_drew HO346.out)
      have n6_ := zA (Kd.R_drew HO350.out)
      have n7_ := zA (blk_drew BK320.out)
      have n8_ := zA (blk_drew BK343.out)
      have n9_ := zA (below_drew1 HB.out)
      clear HO324
      clear HO330
      clear HO333
      clear HO336
      clear HO342
      clear HO346
      clear HO350
      clear BK320
      clear BK343
      clear HB
      have HO324 := n0_
      have HO330 := n1_
      have HO333 := n2_
      have HO336 := n3_
      have HO342 := n4_
      have HO346 := n5_
      have HO350 := n6_
      have BK320 := n7_
      have BK343 := n8_
      have HB := n9_
      clear n0_ n1_ n2_ n3_ n4_ n5_ n6_ n7_ n8_ n9_
      refine start_ (n := 5) (S := fun w' => w'.cell? ⟨gb343, 0, none⟩ = some (.int .i64 t337) ∧ w'.cell? ⟨gb343, 1, none⟩ = some (.int .i64 t338) ∧ w'.cell? ⟨gb343, 2, none⟩ = some (.string t339) ∧ w'.cell? ⟨gb343, 3, none⟩ = some (.slice Ao37 t340.length co37) ∧ w'.cell? ⟨gb320, 0, none⟩ = some (.int .i64 a1_0) ∧ w'.cell? ⟨gb320, 1, none⟩ = some (.int .i64 a1_1) ∧ w'.cell? ⟨gb320, 2, none⟩ = some (.string a1_2) ∧ w'.cell? ⟨gb320, 3, none⟩ = some (.slice A1_3 l1_3.length c1_3)) (ds := []) #[false, false, false, false, false] (by kernel_rfl) rfl rfl ⟨(blk_cell BK343.out 0).trans rfl, (blk_cell BK343.out 1).trans rfl, (blk_cell BK343.out 2).trans rfl, (blk_cell BK343.out 3).trans rfl, (blk_cell BK320.out 0).trans rfl, (blk_cell BK320.out 1).trans rfl, (blk_cell BK320.out 2).trans rfl, (blk_cell BK320.out 3).trans rfl⟩ (fun hHeld => ?_)
      generalize w53.drew = w59 at HO324 HO330 HO333 HO336 HO342 HO346 HO350 BK320 BK343 HB hHeld ⊢
      refine take_ (i := 0) (N := some 43) (v := ?_) (a' := ?_) #[true, false, false, false, false] rfl rfl (by kernel_rfl) (fun _ _ _ h => h) (Or.inl ⟨zq72, ?_⟩) hHeld ?_ ?_
      rotate_left
      ·rintro w' ⟨s0, s1, s2, s3, s4, s5, s6, s7⟩
       go_simp
       with_reducible rfl
      rotate_left
      ·simp only [Act.put, List.setIfInBounds_toArray, List.set_cons_zero, List.set_cons_succ, i64_w, i32_w]
       rfl
      refine take_ (i := 1) (N := some 44) (v := ?_) (a' := ?_) #[true, true, false, false, false] rfl rfl (by kernel_rfl) (fun _ _ _ h => h) (Or.inl ⟨zq72, ?_⟩) hHeld ?_ ?_
      rotate_left
      ·rintro w' ⟨s0, s1, s2, s3, s4, s5, s6, s7⟩
       go_simp
       with_reducible rfl
      rotate_left
      ·simp only [Act.put, List.setIfInBounds_toArray, List.set_cons_zero, List.set_cons_succ, i64_w, i32_w]
       rfl
      refine one_ (i := 2) (N := some 45) #[true, true, true, false, false] rfl rfl (by kernel_rfl) zq37 (fun K hK => ?_)
      refine goes_ Try.func69 (by kernel_rfl) rfl #[.agg #[.int .i64 a1_0, .int .i64 a1_1, .string a1_2, .slice A1_3 l1_3.length c1_3]] zq72 rfl rfl zq1 ?_
      with_reducible refine (laws_toVal.calls k a1_0 a1_1 a1_2 _ _ l1_3 t352 t353 t354 t355 _ ?side1 ?side2 A55.out).mono ?_
      (case side1 => repeat (first | exact (Kd.C_below HR1_3.out HB.out) | (with_reducible refine Kd.C_alloc ?_ _) | (with_reducible refine Kd.C_drewN ?_ _) | (with_reducible refine Kd.C_drew ?_)))
      (case side2 => exact HC1_3.out)
      rintro e w60 ⟨v356, rfl, ho0, hb⟩
      refine ⟨_, rfl, ?_⟩
      have n0_ := zA (Kd.R_below zq18 hb)
      have n1_ := zA (Kd.R_elder' zq22 (Kd.R_base ho0) hb)
      have n2_ := zA (Kd.R_below zq24 hb)
      have n3_ := zA (Kd.R_below zq27 hb)
      have n4_ := zA (Kd.R_elder' zq28 (Kd.R_base ho0) hb)
      have n5_ := zA (Kd.R_below zq30 hb)
      have n6_ := zA (Kd.R_below zq51 hb)
      have n7_ := zA (Kd.R_lower (Kd.R_new' (Kd.R_new' ho0 (Kd.R_lt zq22)) (Kd.R_lt zq28)) (below_size zq5))
      have n8_ := zA (blk_below (g := gb320) (o := .cells #[.int .i64 a1_0, .int .i64 a1_1, .string a1_2, .slice A1_3 l1_3.length c1_3] 73 (0, 0)) zq11 hb)
      have n9_ := zA (blk_below (g := gb343) (o := .cells #[.int .i64 t337, .int .i64 t338, .string t339, .slice Ao37 t340.length co37] 76 (0, 0)) zq17 hb)
      have n10_ := zA (below_step zq5 hb)
      clear HO324
      clear HO330
      clear HO333
      clear HO336
      clear HO342
      clear HO346
      clear HO350
      clear BK320
      clear BK343
      clear HB
      have HO324 := n0_
      have HO330 := n1_
      have HO333 := n2_
      have HO336 := n3_
      have HO342 := n4_
      have HO346 := n5_
      have HO350 := n6_
      have HO357 := n7_
      have BK320 := n8_
      have BK343 := n9_
      have HB := n10_
      clear n0_ n1_ n2_ n3_ n4_ n5_ n6_ n7_ n8_ n9_ n10_
      (try clear hb)
      (try clear hb2)
      (try clear hk)
      (try clear hi)
      (try clear ho0)
      obtain ⟨Ao61, co61, eo61⟩ := Kd.R_slice HO357.out
      (first | subst eo61 | (injection eo61 with f1_ f2_ f3_; have f4_ := f1_.symm; have f5_ := f3_.symm; clear f1_ f2_ f3_; subst f4_; subst f5_))
      refine hK.out _ _ ⟨(blk_cell BK343.out 0).trans rfl, (blk_cell BK343.out 1).trans rfl, (blk_cell BK343.out 2).trans rfl, (blk_cell BK343.out 3).trans rfl, (blk_cell BK320.out 0).trans rfl, (blk_cell BK320.out 1).trans rfl, (blk_cell BK320.out 2).trans rfl, (blk_cell BK320.out 3).trans rfl⟩ (fun hHeld => ?_)
      clear hK K
      refine norm_ (a' := ?_) ?_ ?_
      rotate_left
      ·show Act.put _ (some 45) _ = _
       simp only [Act.put, List.setIfInBounds_toArray, List.set_cons_zero, List.set_cons_succ, i64_w, i32_w]
       rfl
      refine one_ (i := 3) (N := some 46) #[true, true, true, true, false] rfl rfl (by kernel_rfl) zq37 (fun K hK => ?_)
      refine goes_ Try.func71 (by kernel_rfl) rfl #[.agg #[.int .i64 t337, .int .i64 t338, .string t339, .slice Ao37 t340.length co37], .agg #[.int .i64 t352, .int .i64 t353, .string t354, .slice Ao61 t355.length co61]] zq72 rfl rfl zq1 ?_
      with_reducible refine (laws_eqVal.calls k t337 t338 t339 _ _ t340 t352 t353 t354 _ _ t355 true _ ?side1 ?side2 ?side3 ?side4 A56.out).mono ?_
      (case side1 => repeat (first | exact (Kd.R_reads' HO342.out).2.2 | (with_reducible refine Kd.C_alloc ?_ _) | (with_reducible refine Kd.C_drewN ?_ _) | (with_reducible refine Kd.C_drew ?_)))
      (case side2 => exact (Kd.R_reads' HO342.out).2.1)
      (case side3 => repeat (first | exact (Kd.R_reads' HO357.out).2.2 | (with_reducible refine Kd.C_alloc ?_ _) | (with_reducible refine Kd.C_drewN ?_ _) | (with_reducible refine Kd.C_drew ?_)))
      (case side4 => exact (Kd.R_reads' HO357.out).2.1)
      rintro e w62 ⟨rfl, hb⟩
      refine ⟨_, rfl, ?_⟩
      have n0_ := zA (Kd.R_below zq18 hb)
      have n1_ := zA (Kd.R_below zq22 hb)
      have n2_ := zA (Kd.R_below zq24 hb)
      have n3_ := zA (Kd.R_below zq27 hb)
      have n4_ := zA (Kd.R_below zq28 hb)
      have n5_ := zA (Kd.R_below zq30 hb)
      have n6_ := zA (Kd.R_below zq51 hb)
      have n7_ := zA (Kd.R_below zq86 hb)
      have n8_ := zA (blk_below (g := gb320) (o := .cells #[.int .i64 a1_0, .int .i64 a1_1, .string a1_2, .slice A1_3 l1_3.length c1_3] 73 (0, 0)) zq11 hb)
      have n9_ := zA (blk_below (g := gb343) (o := .cells #[.int .i64 t337, .int .i64 t338, .string t339, .slice Ao37 t340.length co37] 76 (0, 0)) zq17 hb)
      have n10_ := zA (below_step zq5 hb)
      clear HO324
      clear HO330
      clear HO333
      clear HO336
      clear HO342
      clear HO346
      clear HO350
      clear HO357
      clear BK320
      clear BK343
      clear HB
      have HO324 := n0_
      have HO330 := n1_
      have HO333 := n2_
      have HO336 := n3_
      have HO342 := n4_
      have HO346 := n5_
      have HO350 := n6_
      have HO357 := n7_
      have BK320 := n8_
      have BK343 := n9_
      have HB := n10_
      clear n0_ n1_ n2_ n3_ n4_ n5_ n6_ n7_ n8_ n9_ n10_
      (try clear hb)
      (try clear hb2)
      (try clear hk)
      (try clear hi)
      refine hK.out _ _ ⟨(blk_cell BK343.out 0).trans rfl, (blk_cell BK343.out 1).trans rfl, (blk_cell BK343.out 2).trans rfl, (blk_cell BK343.out 3).trans rfl, (blk_cell BK320.out 0).trans rfl, (blk_cell BK320.out 1).trans rfl, (blk_cell BK320.out 2).trans rfl, (blk_cell BK320.out 3).trans rfl⟩ (fun hHeld => ?_)
      clear hK K
      refine norm_ (a' := ?_) ?_ ?_
      rotate_left
      ·show Act.put _ (some 46) _ = _
       simp only [Act.put, List.setIfInBounds_toArray, List.set_cons_zero, List.set_cons_succ, i64_w, i32_w]
       rfl
      refine pure_ (i := 4) (N := some 47) (v := ?_) (a' := ?_) #[true, true, true, true, true] rfl rfl (by kernel_rfl) (fun _ _ _ h => h) (Or.inl ⟨zq72, ?_⟩) ?_ ?_
      rotate_left
      ·intro w'
       go_simp
       with_reducible rfl
      rotate_left
      ·simp only [Act.put, List.setIfInBounds_toArray, List.set_cons_zero, List.set_cons_succ, i64_w, i32_w]
       rfl
      refine done_ (by kernel_rfl) ?_
      go_upto_region 17 with (fail)
      have H := HC58.out
      clear HC58
      have HC63 := zA H
      clear H
      go_upto_region 18 with (fail)
      have H := HC63.out
      clear HC63
      obtain ⟨⟨t359, t360⟩, A64, H⟩ := zB H
      try dsimp only at H
      have HC65 := zA H
      clear H
      go_upto_region 19 with (first | ((with_reducible refine gate_callee (f := 46) rfl ?_); refine goesL_ (some 50) rfl rfl Try.func46 (by kernel_rfl) rfl #[.slice Ao42 t334.length co42, .int .i64 1] rfl zq1 ?_; (with_reducible refine (laws_markByteS.calls k (fun k_ => some k_ = (.slice Ao42 t334.length co42 : Value).ownBlock) (.slice Ao42 t334.length co42) t334 1 t359 t360 w _ ?side1 ?side2 A64.out).mono ?_); (case side1 => repeat (first | (with_reducible first | exact HB.out | apply below_alloc | apply pw_below_drewN | apply below_drew1 | refine below_set ?_ GE320.out | refine below_set ?_ GE343.out) | exact HB.out)); (case side2 => exact Kd.R_tight rfl HO336.out); rintro e w66 ⟨rfl, hy0, hb, hkp⟩; refine ⟨_, rfl, ?_⟩; replace BK320 := zA (blk_kept zq11 hkp (fun hs_ => (fun e_ => (Kd.R_ne HO336.out BK320.out zq37) e_) hs_)); replace HO324 := zA (Kd.R_mono (ok' := fun k_ => some k_ ≠ (.slice Ao48 t331.length co48 : Value).ownBlock ∧ some k_ ≠ (.slice Ao42 t334.length co42 : Value).ownBlock ∧ some k_ ≠ (.slice Ao47 t344.length co47 : Value).ownBlock ∧ some k_ ≠ (.slice Ao54 t348.length co54 : Value).ownBlock) (Kd.R_keptB (HO324.out) hkp (fun k_ hk_ hs_ => (hk_.1.1.2) hs_)) (fun k_ hk_ => ⟨hk_.1.1.1.1.2, hk_.1.1.1.2, hk_.1.1.2, hk_.1.2⟩)); replace HO330 := zA (Kd.R_mono (ok' := fun k_ => some k_ ≠ (.slice Ao37 t340.length co37 : Value).ownBlock ∧ some k_ ≠ (.slice Ao61 t355.length co61 : Value).ownBlock) (Kd.R_keptB ((Kd.R_apart' HO330.out (Kd.R_typed HO336.out) zq37)) hkp (fun k_ hk_ hs_ => (hk_.2) hs_)) (fun k_ hk_ => ⟨hk_.1.1.1.2, hk_.1.1.2⟩)); replace HO333 := zA (Kd.R_mono (ok' := fun k_ => some k_ ≠ (.slice Ao24 t322.length co24 : Value).ownBlock ∧ some k_ ≠ (.slice Ao42 t334.length co42 : Value).ownBlock ∧ some k_ ≠ (.slice Ao47 t344.length co47 : Value).ownBlock ∧ some k_ ≠ (.slice Ao54 t348.length co54 : Value).ownBlock) (Kd.R_keptB (HO333.out) hkp (fun k_ hk_ hs_ => (hk_.1.1.2) hs_)) (fun k_ hk_ => ⟨hk_.1.1.1.1.2, hk_.1.1.1.2, hk_.1.1.2, hk_.1.2⟩)); replace HO342 := zA (Kd.R_mono (ok' := fun k_ => some k_ ≠ (.slice Ao25 t328.length co25 : Value).ownBlock ∧ some k_ ≠ (.slice Ao61 t355.length co61 : Value).ownBlock) (Kd.R_keptB ((Kd.R_apart' HO342.out (Kd.R_typed HO336.out) zq37)) hkp (fun k_ hk_ hs_ => (hk_.2) hs_)) (fun k_ hk_ => ⟨hk_.1.1.1.2, hk_.1.1.2⟩)); replace BK343 := zA (blk_kept zq17 hkp (fun hs_ => (fun e_ => (Kd.R_ne HO336.out BK343.out zq37) e_) hs_)); replace HO346 := zA (Kd.R_mono (ok' := fun k_ => some k_ ≠ (.slice Ao24 t322.length co24 : Value).ownBlock ∧ some k_ ≠ (.slice Ao48 t331.length co48 : Value).ownBlock ∧ some k_ ≠ (.slice Ao42 t334.length co42 : Value).ownBlock ∧ some k_ ≠ (.slice Ao54 t348.length co54 : Value).ownBlock) (Kd.R_keptB (HO346.out) hkp (fun k_ hk_ hs_ => (hk_.1.2) hs_)) (fun k_ hk_ => ⟨hk_.1.1.1.1.2, hk_.1.1.1.2, hk_.1.1.2, hk_.1.2⟩)); replace HO350 := zA (Kd.R_mono (ok' := fun k_ => some k_ ≠ (.slice Ao24 t322.length co24 : Value).ownBlock ∧ some k_ ≠ (.slice Ao48 t331.length co48 : Value).ownBlock ∧ some k_ ≠ (.slice Ao42 t334.length co42 : Value).ownBlock ∧ some k_ ≠ (.slice Ao47 t344.length co47 : Value).ownBlock) (Kd.R_keptB (HO350.out) hkp (fun k_ hk_ hs_ => (hk_.1.2) hs_)) (fun k_ hk_ => ⟨hk_.1.1.1.1.2, hk_.1.1.1.2, hk_.1.1.2, hk_.1.2⟩)); replace HO357 := zA (Kd.R_mono (ok' := fun k_ => some k_ ≠ (.slice Ao25 t328.length co25 : Value).ownBlock ∧ some k_ ≠ (.slice Ao37 t340.length co37 : Value).ownBlock) (Kd.R_keptB ((Kd.R_apart' HO357.out (Kd.R_typed HO336.out) zq37)) hkp (fun k_ hk_ hs_ => (hk_.2) hs_)) (fun k_ hk_ => ⟨hk_.1.1.1.2, hk_.1.1.2⟩)); replace HO336 := zA (Kd.R_reok rfl hy0 (fun k_ e_ => HO336.out.1 k_ e_)); replace HB := zA (hb); clear hb hkp hy0))
      (try simp only [Act.put, List.setIfInBounds_toArray, List.set_cons_zero, List.set_cons_succ])
      have H := HC65.out
      clear HC65
      obtain ⟨⟨t361, t362⟩, A67, H⟩ := zB H
      try dsimp only at H
      have HC68 := zA H
      clear H
      have hnb69 := NB343_320.out
      have hnc69 := NB320_343.out
      have hcz70_0 : w66.cell? ⟨gb343, 0, none⟩ = some (.int .i64 t337) := (blk_cell BK343.out 0).trans rfl
      have hcz70_1 : w66.cell? ⟨gb343, 1, none⟩ = some (.int .i64 t338) := (blk_cell BK343.out 1).trans rfl
      have hcz70_2 : w66.cell? ⟨gb343, 2, none⟩ = some (.string t339) := (blk_cell BK343.out 2).trans rfl
      have hcz70_3 : w66.cell? ⟨gb343, 3, none⟩ = some (.slice Ao37 t340.length co37) := (blk_cell BK343.out 3).trans rfl
      have hfz70_0 := blk_frozen BK343.out 0
      have hfz70_1 := blk_frozen BK343.out 1
      have hfz70_2 := blk_frozen BK343.out 2
      have hfz70_3 := blk_frozen BK343.out 3
      go_upto_region 20 with (first | ((with_reducible refine gate_callee (f := 72) rfl ?_); refine goesL_ (some 53) rfl rfl Try.func72 (by kernel_rfl) rfl #[.agg #[.int .i64 t337, .int .i64 t338, .string t339, .slice Ao37 t340.length co37], .int .i64 t359] rfl zq1 ?_; (with_reducible refine (laws_markVal.calls k t337 t338 t339 (fun k_ => some k_ = (.slice Ao37 t340.length co37 : Value).ownBlock) (.slice Ao37 t340.length co37) t340 t359 t361 t362 w _ ?side1 ?side2 A67.out).mono ?_); (case side1 => repeat (first | (with_reducible first | exact HB.out | apply below_alloc | apply pw_below_drewN | apply below_drew1 | refine below_set ?_ GE320.out | refine below_set ?_ GE343.out) | exact HB.out)); (case side2 => exact Kd.R_tight rfl HO342.out); rintro e w71 ⟨rfl, hy0, hb, hkp⟩; refine ⟨_, rfl, ?_⟩; replace BK320 := zA (blk_kept zq11 hkp (fun hs_ => (fun e_ => (Kd.R_ne HO342.out BK320.out zq37) e_) hs_)); replace HO324 := zA (Kd.R_mono (ok' := fun k_ => some k_ ≠ (.slice Ao48 t331.length co48 : Value).ownBlock ∧ some k_ ≠ (.slice Ao42 t334.length co42 : Value).ownBlock ∧ some k_ ≠ (.slice Ao47 t344.length co47 : Value).ownBlock ∧ some k_ ≠ (.slice Ao54 t348.length co54 : Value).ownBlock) (Kd.R_keptB ((Kd.R_apart' HO324.out (Kd.R_typed HO342.out) zq37)) hkp (fun k_ hk_ hs_ => (hk_.2) hs_)) (fun k_ hk_ => ⟨hk_.1.1.1, hk_.1.1.2.1, hk_.1.1.2.2.1, hk_.1.1.2.2.2⟩)); replace HO330 := zA (Kd.R_mono (ok' := fun k_ => some k_ ≠ (.slice Ao37 t340.length co37 : Value).ownBlock ∧ some k_ ≠ (.slice Ao61 t355.length co61 : Value).ownBlock) (Kd.R_keptB (HO330.out) hkp (fun k_ hk_ hs_ => (hk_.1) hs_)) (fun k_ hk_ => ⟨hk_.1.1, hk_.1.2⟩)); replace HO333 := zA (Kd.R_mono (ok' := fun k_ => some k_ ≠ (.slice Ao24 t322.length co24 : Value).ownBlock ∧ some k_ ≠ (.slice Ao42 t334.length co42 : Value).ownBlock ∧ some k_ ≠ (.slice Ao47 t344.length co47 : Value).ownBlock ∧ some k_ ≠ (.slice Ao54 t348.length co54 : Value).ownBlock) (Kd.R_keptB ((Kd.R_apart' HO333.out (Kd.R_typed HO342.out) zq37)) hkp (fun k_ hk_ hs_ => (hk_.2) hs_)) (fun k_ hk_ => ⟨hk_.1.1.1, hk_.1.1.2.1, hk_.1.1.2.2.1, hk_.1.1.2.2.2⟩)); replace HO336 := zA (Kd.R_mono (ok' := fun k_ => some k_ ≠ (.slice Ao24 t322.length co24 : Value).ownBlock ∧ some k_ ≠ (.slice Ao48 t331.length co48 : Value).ownBlock ∧ some k_ ≠ (.slice Ao47 t344.length co47 : Value).ownBlock ∧ some k_ ≠ (.slice Ao54 t348.length co54 : Value).ownBlock) (Kd.R_keptB ((Kd.R_apart' HO336.out (Kd.R_typed HO342.out) zq37)) hkp (fun k_ hk_ hs_ => (hk_.2) hs_)) (fun k_ hk_ => ⟨hk_.1.1.1.1.1.2, hk_.1.1.1.1.2, hk_.1.1.1.2, hk_.1.1.2⟩)); replace BK343 := zA (blk_kept zq17 hkp (fun hs_ => (fun e_ => (Kd.R_ne HO342.out BK343.out zq37) e_) hs_)); replace HO346 := zA (Kd.R_mono (ok' := fun k_ => some k_ ≠ (.slice Ao24 t322.length co24 : Value).ownBlock ∧ some k_ ≠ (.slice Ao48 t331.length co48 : Value).ownBlock ∧ some k_ ≠ (.slice Ao42 t334.length co42 : Value).ownBlock ∧ some k_ ≠ (.slice Ao54 t348.length co54 : Value).ownBlock) (Kd.R_keptB ((Kd.R_apart' HO346.out (Kd.R_typed HO342.out) zq37)) hkp (fun k_ hk_ hs_ => (hk_.2) hs_)) (fun k_ hk_ => ⟨hk_.1.1.1, hk_.1.1.2.1, hk_.1.1.2.2.1, hk_.1.1.2.2.2⟩)); replace HO350 := zA (Kd.R_mono (ok' := fun k_ => some k_ ≠ (.slice Ao24 t322.length co24 : Value).ownBlock ∧ some k_ ≠ (.slice Ao48 t331.length co48 : Value).ownBlock ∧ some k_ ≠ (.slice Ao42 t334.length co42 : Value).ownBlock ∧ some k_ ≠ (.slice Ao47 t344.length co47 : Value).ownBlock) (Kd.R_keptB ((Kd.R_apart' HO350.out (Kd.R_typed HO342.out) zq37)) hkp (fun k_ hk_ hs_ => (hk_.2) hs_)) (fun k_ hk_ => ⟨hk_.1.1.1, hk_.1.1.2.1, hk_.1.1.2.2.1, hk_.1.1.2.2.2⟩)); replace HO342 := zA (Kd.R_reok rfl hy0 (fun k_ e_ => HO342.out.1 k_ e_)); replace HO357 := zA (Kd.R_mono (ok' := fun k_ => some k_ ≠ (.slice Ao25 t328.length co25 : Value).ownBlock ∧ some k_ ≠ (.slice Ao37 t340.length co37 : Value).ownBlock) (Kd.R_keptB (HO357.out) hkp (fun k_ hk_ hs_ => (hk_.2) hs_)) (fun k_ hk_ => ⟨hk_.1.1, hk_.1.2⟩)); replace HB := zA (hb); clear hb hkp hy0))
      (try simp only [Act.put, List.setIfInBounds_toArray, List.set_cons_zero, List.set_cons_succ])
      have H := HC68.out
      clear HC68
      have HC72 := zA H
      clear H
      go_upto_region 20 with (fail)
      go_cut [61] (fun v61 wc => ∃ (kq : Nat) (x61_71 : Bool), v61 = .bool x61_71 ∧ Aside0 (laws_FnExactPutVal.j0 kq l0 t331 t344 x61_71 a1_0 a1_1 a1_2 l1_3 = some r) ∧ Aside0 (kq ≤ k) ∧ Aside0 (Kd.R (Kd.int .u8) 5 wc w.heap.size (fun k_ => some k_ ≠ ((.slice Ao47 t344.length co47) : Value).ownBlock) (.slice Ao48 t331.length co48) t331) ∧ Aside0 (Kd.R (Kd.int .u8) 5 wc w.heap.size (fun k_ => some k_ ≠ ((.slice Ao48 t331.length co48) : Value).ownBlock) (.slice Ao47 t344.length co47) t344) ∧ Aside0 (Kd.R (Kd.int .i64) 3 wc w.heap.size (fun _ => True) (.slice Ao37 t340.length co37) t362) ∧ Aside0 (wc.heap[gb320]? = some (.cells #[.int .i64 a1_0, .int .i64 a1_1, .string a1_2, (.slice A1_3 l1_3.length c1_3)] 73 (0, 0))) ∧ Aside0 (wc.heap[gb343]? = some (.cells #[.int .i64 t337, .int .i64 t338, .string t339, (.slice Ao37 t340.length co37)] 76 (0, 0))) ∧ Aside0 (Below w.heap.size w wc))
      case first =>
       have H := HC72.out
       clear HC72
       by_cases c73 : t361 < 0
       ·rw [if_pos c73] at H
        have c73b0 : decide (t361 < 0) = true := decide_eq_true c73
        clear c73
        (first | rw [c73b0] | (simp only [i64_w, i32_w]; rw [c73b0]) | skip)
        have H' := zA H
        clear H
        go_wp2
        go_meet
        case rel => exact ⟨_, (true), zq8, H', ⟨zq54⟩, ⟨zq73⟩, ⟨zq75⟩, ⟨zq74⟩, ⟨zq11⟩, ⟨zq17⟩, ⟨zq5⟩⟩
       ·rw [if_neg c73] at H
        have c73b0 : decide (t361 < 0) = false := decide_eq_false c73
        clear c73
        (first | rw [c73b0] | (simp only [i64_w, i32_w]; rw [c73b0]) | skip)
        obtain ⟨t363, A74, H⟩ := zB H
        try dsimp only at H
        have H' := zA H
        clear H
        go_wp2_with (first | (go_at_call 35; (with_reducible refine (laws_eqByteS.calls k _ _ t344 _ _ t331 t363 _ ?side1 ?side2 ?side3 ?side4 A74.out).mono ?_); (case side1 => repeat (first | exact (Kd.R_reads' HO346.out).2.2 | (with_reducible refine Kd.C_alloc ?_ _) | (with_reducible refine Kd.C_drewN ?_ _) | (with_reducible refine Kd.C_drew ?_))); (case side2 => exact (Kd.R_reads' HO346.out).2.1); (case side3 => repeat (first | exact (Kd.R_reads' HO333.out).2.2 | (with_reducible refine Kd.C_alloc ?_ _) | (with_reducible refine Kd.C_drewN ?_ _) | (with_reducible refine Kd.C_drew ?_))); (case side4 => exact (Kd.R_reads' HO333.out).2.1); rintro e w' ⟨rfl, ⟨nd, rfl⟩⟩))
        go_meet
        case rel => exact ⟨_, (!t363), zq8, H', ⟨zq54⟩, ⟨zq73⟩, ⟨zq75⟩, ⟨zq74⟩, ⟨zq11⟩, ⟨zq17⟩, ⟨zq5⟩⟩
      case rest =>
       clear HC72
       try clear c1
       try clear p2
       try clear c3
       try clear c4
       try clear c5
       try clear c6
       try clear c6b0
       try clear c6b1
       try clear c7
       try clear c9
       try clear c14
       try clear c14b0
       try clear c32
       try clear c35
       try clear c40
       try clear c45
       try clear c46
       try clear c51
       try clear c57
       try clear c67
       try clear c68
       try clear c69
       try clear c70
       try clear c71
       try clear c72
       try clear c73
       try clear c73b0
       try clear hcz12_0
       try clear hcz12_1
       try clear hcz12_2
       try clear hcz12_3
       try clear hcz32_0
       try clear hcz32_1
       try clear hcz32_2
       try clear hcz32_3
       try clear hcz36_0
       try clear hcz36_1
       try clear hcz36_2
       try clear hcz36_3
       try clear hcz41_0
       try clear hcz41_1
       try clear hcz41_2
       try clear hcz41_3
       try clear hcz70_0
       try clear hcz70_1
       try clear hcz70_2
       try clear hcz70_3
       try clear hfz12_0
       try clear hfz12_1
       try clear hfz12_2
       try clear hfz12_3
       try clear hfz32_0
       try clear hfz32_1
       try clear hfz32_2
       try clear hfz32_3
       try clear hfz36_0
       try clear hfz36_1
       try clear hfz36_2
       try clear hfz36_3
       try clear hfz41_0
       try clear hfz41_1
       try clear hfz41_2
       try clear hfz41_3
       try clear hfz70_0
       try clear hfz70_1
       try clear hfz70_2
       try clear hfz70_3
       obtain ⟨kq, x61_71, rfl, HA, HJ71, HO_6, HO_9, HO_344003, BK320, BK343, HB⟩ := hcut
       have hl344003_71 := (Kd.R_reads' HO_344003.out).1
       rw [hl344003_71] at HO_344003
       (try simp only [hl344003_71])
       (try simp only [hl344003_71] at BK320)
       (try simp only [hl344003_71] at BK343)
       (try simp only [hl344003_71] at HO_6)
       (try simp only [hl344003_71] at HO_9)
       cases kq with
       | zero => exact absurd HA.out (by simp [laws_FnExactPutVal.j0])
       | succ kj71 =>
        have H := HA.out
        clear HA
        simp only [laws_FnExactPutVal.j0] at H
        by_cases c75 : x61_71 = true
        ·subst c75
         rw [if_pos rfl] at H
         have HC76 := zA H
         clear H
         go_upto_region 21 with (fail)
         have H := HC76.out
         clear HC76
         exact absurd H zq89
        ·replace c75 := Bool.eq_false_iff.mpr c75
         subst c75
         rw [if_neg zF] at H
         have HC77 := zA H
         clear H
         go_upto_region 22 with (fail)
         have H := HC77.out
         clear HC77
         have HC78 := zA H
         clear H
         go_upto_region 23 with (fail)
         have H := HC78.out
         clear HC78
         obtain ⟨⟨t364, t365⟩, A79, H⟩ := zB H
         try dsimp only at H
         have HC80 := zA H
         clear H
         go_upto_region 24 with (first | ((with_reducible refine gate_callee (f := 46) rfl ?_); refine goesL_ (some 64) rfl rfl Try.func46 (by kernel_rfl) rfl #[.slice Ao47 t344.length co47, .int .i64 1] rfl zq1 ?_; (with_reducible refine (laws_markByteS.calls kj71 (fun k_ => some k_ = (.slice Ao47 t344.length co47 : Value).ownBlock) (.slice Ao47 t344.length co47) t344 1 t364 t365 w _ ?side1 ?side2 A79.out).mono ?_); (case side1 => repeat (first | (with_reducible first | exact HB.out | apply below_alloc | apply pw_below_drewN | apply below_drew1 | refine below_set ?_ GE320.out | refine below_set ?_ GE343.out) | exact HB.out)); (case side2 => exact Kd.R_tight rfl HO_9.out); rintro e w81 ⟨rfl, hy0, hb, hkp⟩; refine ⟨_, rfl, ?_⟩; replace HO_6 := zA (Kd.R_mono (ok' := fun k_ => some k_ ≠ (.slice Ao47 t344.length co47 : Value).ownBlock) (Kd.R_keptB (HO_6.out) hkp (fun k_ hk_ hs_ => (hk_) hs_)) (fun k_ hk_ => hk_.1)); replace HO_344003 := zA (Kd.R_mono (ok' := fun k_ => True) (Kd.R_keptB ((Kd.R_apart' HO_344003.out (Kd.R_typed HO_9.out) zq37)) hkp (fun k_ hk_ hs_ => (hk_.2) hs_)) (fun k_ hk_ => trivial)); replace BK320 := zA (blk_kept zq11 hkp (fun hs_ => (fun e_ => (Kd.R_ne HO_9.out BK320.out zq37) e_) hs_)); replace BK343 := zA (blk_kept zq17 hkp (fun hs_ => (fun e_ => (Kd.R_ne HO_9.out BK343.out zq37) e_) hs_)); replace HO_9 := zA (Kd.R_reok rfl hy0 (fun k_ e_ => HO_9.out.1 k_ e_)); replace HB := zA (hb); clear hb hkp hy0))
         (try simp only [Act.put, List.setIfInBounds_toArray, List.set_cons_zero, List.set_cons_succ])
         have H := HC80.out
         clear HC80
         have HC82 := zA H
         clear H
         go_upto_region 25 with (fail)
         have H := HC82.out
         clear HC82
         obtain ⟨t366, A83, H⟩ := zB H
         try dsimp only at H
         have HC84 := zA H
         clear H
         go_upto_region 26 with (first | ((with_reducible refine gate_callee (f := 73) rfl ?_); refine goesL_ (some 67) rfl rfl Try.func73 (by kernel_rfl) rfl #[.slice Ao47 t365.length co47, .int .i64 1] rfl zq64 ?_; (with_reducible refine (laws_heldByteS.calls kj71 _ _ t365 1 t366 _ ?side1 ?side2 A83.out).mono ?_); (case side1 => repeat (first | exact (Kd.R_reads' HO_9.out).2.2 | (with_reducible refine Kd.C_alloc ?_ _) | (with_reducible refine Kd.C_drewN ?_ _) | (with_reducible refine Kd.C_drew ?_))); (case side2 => rw [show t365.length = t344.length from (Kd.R_reads' HO_9.out).1.symm]; exact (Kd.R_reads' HO_9.out).2.1); rintro e w' ⟨rfl, ⟨nd, rfl⟩⟩; refine ⟨_, rfl, ?_⟩))
         (try simp only [Act.put, List.setIfInBounds_toArray, List.set_cons_zero, List.set_cons_succ])
         (try (rw [drewN_self w81]; generalize hq_ : World.drewN w81 _ = w81; replace HO_6 := zA (Kd.R_at hq_ HO_6.out); replace HO_9 := zA (Kd.R_at hq_ HO_9.out); replace HO_344003 := zA (Kd.R_at hq_ HO_344003.out); replace BK320 := zA (blk_at hq_ BK320.out); replace BK343 := zA (blk_at hq_ BK343.out); replace HB := zA (below_at hq_ HB.out); clear hq_))
         have H := HC84.out
         clear HC84
         by_cases c85 : t366 < 0
         ·rw [if_pos c85] at H
          have c85b0 : decide (t366 < 0) = true := decide_eq_true c85
          clear c85
          have HC86 := zA H
          clear H
          go_upto_region 27 with (fail)
          have H := HC86.out
          clear HC86
          exact absurd H zq89
         ·rw [if_neg c85] at H
          have c85b0 : decide (t366 < 0) = false := decide_eq_false c85
          clear c85
          have HC87 := zA H
          clear H
          go_upto_region 28 with (fail)
          have H := HC87.out
          clear HC87
          by_cases c88 : t366 = t364
          ·rw [if_pos c88] at H
           have c88b0 : (t366 == t364) = true := beq_iff_eq.mpr c88
           have c88b1 : (t366 != t364) = false := bne_eq_false_iff_eq.mpr c88
           clear c88
           have HC89 := zA H
           clear H
           go_upto_region 30 with (fail)
           have H := HC89.out
           clear HC89
           obtain ⟨t367, A90, H⟩ := zB H
           try dsimp only at H
           obtain ⟨⟨t370, t371, t372, t373⟩, A91, H⟩ := zB H
           try dsimp only at H
           obtain ⟨t376, A92, H⟩ := zB H
           try dsimp only at H
           have HC93 := zA H
           clear H
           try go_wp2
           have n0_ := zA (Kd.R_drew HO_6.out)
           have n1_ := zA (Kd.R_drew HO_9.out)
           have n2_ := zA (Kd.R_drew HO_344003.out)
           have n3_ := zA (blk_drew BK320.out)
           have n4_ := zA (blk_drew BK343.out)
           have n5_ := zA (below_drew1 HB.out)
           clear HO_6
           clear HO_9
           clear HO_344003
           clear BK320
           clear BK343
           clear HB
           have HO_6 := n0_
           have HO_9 := n1_
           have HO_344003 := n2_
           have BK320 := n3_
           have BK343 := n4_
           have HB := n5_
           clear n0_ n1_ n2_ n3_ n4_ n5_
           refine start_ (n := 6) (S := fun w' => w'.cell? ⟨gb320, 0, none⟩ = some (.int .i64 a1_0) ∧ w'.cell? ⟨gb320, 1, none⟩ = some (.int .i64 a1_1) ∧ w'.cell? ⟨gb320, 2, none⟩ = some (.string a1_2) ∧ w'.cell? ⟨gb320, 3, none⟩ = some (.slice A1_3 l1_3.length c1_3)) (ds := []) #[false, false, false, false, false, false] (by kernel_rfl) rfl rfl ⟨(blk_cell BK320.out 0).trans rfl, (blk_cell BK320.out 1).trans rfl, (blk_cell BK320.out 2).trans rfl, (blk_cell BK320.out 3).trans rfl⟩ (fun hHeld => ?_)
           generalize w81.drew = w94 at HO_6 HO_9 HO_344003 BK320 BK343 HB hHeld ⊢
           refine pure_ (i := 0) (N := some 73) (v := ?_) (a' := ?_) #[true, false, false, false, false, false] rfl rfl (by kernel_rfl) (fun _ _ _ h => h) (Or.inl ⟨zq72, ?_⟩) ?_ ?_
           rotate_left
           ·intro w'
            go_simp
            with_reducible rfl
           rotate_left
           ·simp only [Act.put, List.setIfInBounds_toArray, List.set_cons_zero, List.set_cons_succ, i64_w, i32_w]
            rfl
           refine take_ (i := 2) (N := some 75) (v := ?_) (a' := ?_) #[true, false, true, false, false, false] rfl rfl (by kernel_rfl) (fun _ _ _ h => h) (Or.inl ⟨zq72, ?_⟩) hHeld ?_ ?_
           rotate_left
           ·rintro w' ⟨s0, s1, s2, s3⟩
            go_simp
            with_reducible rfl
           rotate_left
           ·simp only [Act.put, List.setIfInBounds_toArray, List.set_cons_zero, List.set_cons_succ, i64_w, i32_w]
            rfl
           refine one_ (i := 1) (N := some 74) #[true, true, true, false, false, false] rfl rfl (by kernel_rfl) zq37 (fun K hK => ?_)
           refine goes_ Try.func32 (by kernel_rfl) rfl #[.slice A0 l0.length c0] zq72 rfl rfl zq1 ?_
           with_reducible refine (laws_toByteS.calls kj71 _ _ l0 t367 _ ?side1 ?side2 A90.out).mono ?_
           (case side1 => repeat (first | exact (Kd.C_below HR0.out HB.out) | (with_reducible refine Kd.C_alloc ?_ _) | (with_reducible refine Kd.C_drewN ?_ _) | (with_reducible refine Kd.C_drew ?_)))
           (case side2 => exact HC0.out)
           rintro e w95 ⟨v368, rfl, ho0, hb⟩
           refine ⟨_, rfl, ?_⟩
           have n0_ := zA (Kd.R_elder' zq39 (Kd.R_base ho0) hb)
           have n1_ := zA (Kd.R_elder' zq40 (Kd.R_base ho0) hb)
           have n2_ := zA (Kd.R_below zq48 hb)
           have n3_ := zA (Kd.R_lower (Kd.R_new' (Kd.R_new' ho0 (Kd.R_lt zq39)) (Kd.R_lt zq40)) (below_size zq5))
           have n4_ := zA (blk_below (g := gb320) (o := .cells #[.int .i64 a1_0, .int .i64 a1_1, .string a1_2, .slice A1_3 l1_3.length c1_3] 73 (0, 0)) zq11 hb)
           have n5_ := zA (blk_below (g := gb343) (o := .cells #[.int .i64 t337, .int .i64 t338, .string t339, .slice Ao37 t362.length co37] 76 (0, 0)) zq17 hb)
           have n6_ := zA (below_step zq5 hb)
           clear HO_6
           clear HO_9
           clear HO_344003
           clear BK320
           clear BK343
           clear HB
           have HO_6 := n0_
           have HO_9 := n1_
           have HO_344003 := n2_
           have HO369 := n3_
           have BK320 := n4_
           have BK343 := n5_
           have HB := n6_
           clear n0_ n1_ n2_ n3_ n4_ n5_ n6_
           (try clear hb)
           (try clear hb2)
           (try clear hk)
           (try clear hi)
           (try clear ho0)
           refine hK.out _ _ ⟨(blk_cell BK320.out 0).trans rfl, (blk_cell BK320.out 1).trans rfl, (blk_cell BK320.out 2).trans rfl, (blk_cell BK320.out 3).trans rfl⟩ (fun hHeld => ?_)
           clear hK K
           refine norm_ (a' := ?_) ?_ ?_
           rotate_left
           ·show Act.put _ (some 74) _ = _
            simp only [Act.put, List.setIfInBounds_toArray, List.set_cons_zero, List.set_cons_succ, i64_w, i32_w]
            rfl
           refine one_ (i := 3) (N := some 76) #[true, true, true, true, false, false] rfl rfl (by kernel_rfl) zq37 (fun K hK => ?_)
           refine goes_ Try.func69 (by kernel_rfl) rfl #[.agg #[.int .i64 a1_0, .int .i64 a1_1, .string a1_2, .slice A1_3 l1_3.length c1_3]] zq72 rfl rfl zq1 ?_
           with_reducible refine (laws_toVal.calls kj71 a1_0 a1_1 a1_2 _ _ l1_3 t370 t371 t372 t373 _ ?side1 ?side2 A91.out).mono ?_
           (case side1 => repeat (first | exact (Kd.C_below HR1_3.out HB.out) | (with_reducible refine Kd.C_alloc ?_ _) | (with_reducible refine Kd.C_drewN ?_ _) | (with_reducible refine Kd.C_drew ?_)))
           (case side2 => exact HC1_3.out)
           rintro e w96 ⟨v374, rfl, ho0, hb⟩
           refine ⟨_, rfl, ?_⟩
           have n0_ := zA (Kd.R_below zq39 hb)
           have n1_ := zA (Kd.R_below zq40 hb)
           have n2_ := zA (Kd.R_elder' zq48 (Kd.R_base ho0) hb)
           have n3_ := zA (Kd.R_below zq65 hb)
           have n4_ := zA (Kd.R_lower (Kd.R_new' ho0 (Kd.R_lt zq48)) (below_size zq5))
           have n5_ := zA (blk_below (g := gb320) (o := .cells #[.int .i64 a1_0, .int .i64 a1_1, .string a1_2, .slice A1_3 l1_3.length c1_3] 73 (0, 0)) zq11 hb)
           have n6_ := zA (blk_below (g := gb343) (o := .cells #[.int .i64 t337, .int .i64 t338, .string t339, .slice Ao37 t362.length co37] 76 (0, 0)) zq17 hb)
           have n7_ := zA (below_step zq5 hb)
           clear HO_6
           clear HO_9
           clear HO_344003
           clear HO369
           clear BK320
           clear BK343
           clear HB
           have HO_6 := n0_
           have HO_9 := n1_
           have HO_344003 := n2_
           have HO369 := n3_
           have HO375 := n4_
           have BK320 := n5_
           have BK343 := n6_
           have HB := n7_
           clear n0_ n1_ n2_ n3_ n4_ n5_ n6_ n7_
           (try clear hb)
           (try clear hb2)
           (try clear hk)
           (try clear hi)
           (try clear ho0)
           obtain ⟨Ao97, co97, eo97⟩ := Kd.R_slice HO369.out
           (first | subst eo97 | (injection eo97 with f1_ f2_ f3_; have f4_ := f1_.symm; have f5_ := f3_.symm; clear f1_ f2_ f3_; subst f4_; subst f5_))
           obtain ⟨Ao98, co98, eo98⟩ := Kd.R_slice HO375.out
           (first | subst eo98 | (injection eo98 with f1_ f2_ f3_; have f4_ := f1_.symm; have f5_ := f3_.symm; clear f1_ f2_ f3_; subst f4_; subst f5_))
           refine hK.out _ _ ⟨(blk_cell BK320.out 0).trans rfl, (blk_cell BK320.out 1).trans rfl, (blk_cell BK320.out 2).trans rfl, (blk_cell BK320.out 3).trans rfl⟩ (fun hHeld => ?_)
           clear hK K
           refine norm_ (a' := ?_) ?_ ?_
           rotate_left
           ·show Act.put _ (some 76) _ = _
            simp only [Act.put, List.setIfInBounds_toArray, List.set_cons_zero, List.set_cons_succ, i64_w, i32_w]
            rfl
           refine one_ (i := 4) (N := some 77) #[true, true, true, true, true, false] rfl rfl (by kernel_rfl) zq37 (fun K hK => ?_)
           refine goes_ Try.func70 (by kernel_rfl) rfl #[.slice Ao97 t367.length co97, .agg #[.int .i64 t370, .int .i64 t371, .string t372, .slice Ao98 t373.length co98]] zq72 rfl rfl zq1 ?_
           with_reducible refine (impl_PutVal.calls kj71 _ _ t367 t370 t371 t372 _ _ t373 t376 _ ?side1 ?side2 ?side3 ?side4 A92.out).mono ?_
           (case side1 => repeat (first | exact (Kd.R_reads' HO369.out).2.2 | (with_reducible refine Kd.C_alloc ?_ _) | (with_reducible refine Kd.C_drewN ?_ _) | (with_reducible refine Kd.C_drew ?_)))
           (case side2 => exact (Kd.R_reads' HO369.out).2.1)
           (case side3 => repeat (first | exact (Kd.R_reads' HO375.out).2.2 | (with_reducible refine Kd.C_alloc ?_ _) | (with_reducible refine Kd.C_drewN ?_ _) | (with_reducible refine Kd.C_drew ?_)))
           (case side4 => exact (Kd.R_reads' HO375.out).2.1)
           rintro e w99 ⟨v377, rfl, ho0, hb⟩
           refine ⟨_, rfl, ?_⟩
           have n0_ := zA (Kd.R_elder' zq39 (Kd.R_base ho0) hb)
           have n1_ := zA (Kd.R_elder' zq40 (Kd.R_base ho0) hb)
           have n2_ := zA (Kd.R_below zq48 hb)
           have n3_ := zA (Kd.R_elder' zq65 (Kd.R_base ho0) hb)
           have n4_ := zA (Kd.R_below (by (with_reducible repeat (first | apply Kd.R_alloc | apply Kd.R_drewN | apply Kd.R_drew)); exact HO375.out) hb)
           have n5_ := zA (Kd.R_lower (Kd.R_new' (Kd.R_new' (Kd.R_new' ho0 (Kd.R_lt zq39)) (Kd.R_lt zq40)) (Kd.R_lt zq65)) (below_size zq5))
           have n6_ := zA (blk_below (g := gb320) (o := .cells #[.int .i64 a1_0, .int .i64 a1_1, .string a1_2, .slice A1_3 l1_3.length c1_3] 73 (0, 0)) zq11 hb)
           have n7_ := zA (blk_below (g := gb343) (o := .cells #[.int .i64 t337, .int .i64 t338, .string t339, .slice Ao37 t362.length co37] 76 (0, 0)) zq17 hb)
           have n8_ := zA (below_step zq5 hb)
           clear HO_6
           clear HO_9
           clear HO_344003
           clear HO369
           clear HO375
           clear BK320
           clear BK343
           clear HB
           have HO_6 := n0_
           have HO_9 := n1_
           have HO_344003 := n2_
           have HO369 := n3_
           have HO375 := n4_
           have HO378 := n5_
           have BK320 := n6_
           have BK343 := n7_
           have HB := n8_
           clear n0_ n1_ n2_ n3_ n4_ n5_ n6_ n7_ n8_
           (try clear hb)
           (try clear hb2)
           (try clear hk)
           (try clear hi)
           (try clear ho0)
           refine hK.out _ _ ⟨(blk_cell BK320.out 0).trans rfl, (blk_cell BK320.out 1).trans rfl, (blk_cell BK320.out 2).trans rfl, (blk_cell BK320.out 3).trans rfl⟩ (fun hHeld => ?_)
           clear hK K
           refine norm_ (a' := ?_) ?_ ?_
           rotate_left
           ·show Act.put _ (some 77) _ = _
            simp only [Act.put, List.setIfInBounds_toArray, List.set_cons_zero, List.set_cons_succ, i64_w, i32_w]
            rfl
           refine pure_ (i := 5) (N := some 13) (v := ?_) (a' := ?_) #[true, true, true, true, true, true] rfl rfl (by kernel_rfl) (fun _ _ _ h => h) (Or.inl ⟨zq72, ?_⟩) ?_ ?_
           rotate_left
           ·intro w'
            go_simp
            with_reducible rfl
           rotate_left
           ·simp only [Act.put, List.setIfInBounds_toArray, List.set_cons_zero, List.set_cons_succ, i64_w, i32_w]
            rfl
           refine done_ (by kernel_rfl) ?_
           go_upto_region 31 with (fail)
           have H := HC93.out
           clear HC93
           obtain ⟨t379, A100, H⟩ := zB H
           try dsimp only at H
           by_cases c101 : t379 = true
           ·subst c101
            rw [if_pos rfl] at H
            have HC102 := zA H
            clear H
            obtain ⟨Ao103, co103, eo103⟩ := Kd.R_slice HO378.out
            subst eo103
            go_upto_region 33 with (first | ((with_reducible refine gate_callee (f := 35) rfl ?_); refine goesL_ (some 80) rfl rfl Try.func35 (by kernel_rfl) rfl #[.slice Ao103 t376.length co103, .slice Ao48 t331.length co48] rfl zq1 ?_; (with_reducible refine (laws_eqByteS.calls kj71 _ _ t376 _ _ t331 true _ ?side1 ?side2 ?side3 ?side4 A100.out).mono ?_); (case side1 => repeat (first | exact (Kd.R_reads' HO378.out).2.2 | (with_reducible refine Kd.C_alloc ?_ _) | (with_reducible refine Kd.C_drewN ?_ _) | (with_reducible refine Kd.C_drew ?_))); (case side2 => exact (Kd.R_reads' HO378.out).2.1); (case side3 => repeat (first | exact (Kd.R_reads' HO_6.out).2.2 | (with_reducible refine Kd.C_alloc ?_ _) | (with_reducible refine Kd.C_drewN ?_ _) | (with_reducible refine Kd.C_drew ?_))); (case side4 => exact (Kd.R_reads' HO_6.out).2.1); rintro e w' ⟨rfl, ⟨nd, rfl⟩⟩; refine ⟨_, rfl, ?_⟩))
            (try simp only [Act.put, List.setIfInBounds_toArray, List.set_cons_zero, List.set_cons_succ])
            (try (rw [drewN_self w99]; generalize hq_ : World.drewN w99 _ = w99; replace HO_6 := zA (Kd.R_at hq_ HO_6.out); replace HO_9 := zA (Kd.R_at hq_ HO_9.out); replace HO_344003 := zA (Kd.R_at hq_ HO_344003.out); replace HO369 := zA (Kd.R_at hq_ HO369.out); replace HO375 := zA (Kd.R_at hq_ HO375.out); replace HO378 := zA (Kd.R_at hq_ HO378.out); replace BK320 := zA (blk_at hq_ BK320.out); replace BK343 := zA (blk_at hq_ BK343.out); replace HB := zA (below_at hq_ HB.out); clear hq_))
            have H := HC102.out
            clear HC102
            have HC104 := zA H
            clear H
            go_upto_region 34 with (fail)
            have H := HC104.out
            clear HC104
            obtain ⟨t380, A105, H⟩ := zB H
            try dsimp only at H
            have HC106 := zA H
            clear H
            go_upto_region 35 with (first | ((with_reducible refine gate_callee (f := 73) rfl ?_); refine goesL_ (some 84) rfl rfl Try.func73 (by kernel_rfl) rfl #[.slice Ao47 t365.length co47, .int .i64 1] rfl zq64 ?_; (with_reducible refine (laws_heldByteS.calls kj71 _ _ t365 1 t380 _ ?side1 ?side2 A105.out).mono ?_); (case side1 => repeat (first | exact (Kd.R_reads' HO_9.out).2.2 | (with_reducible refine Kd.C_alloc ?_ _) | (with_reducible refine Kd.C_drewN ?_ _) | (with_reducible refine Kd.C_drew ?_))); (case side2 => rw [show t365.length = t344.length from (Kd.R_reads' HO_9.out).1.symm]; exact (Kd.R_reads' HO_9.out).2.1); rintro e w' ⟨rfl, ⟨nd, rfl⟩⟩; refine ⟨_, rfl, ?_⟩))
            (try simp only [Act.put, List.setIfInBounds_toArray, List.set_cons_zero, List.set_cons_succ])
            (try (rw [drewN_self w99]; generalize hq_ : World.drewN w99 _ = w99; replace HO_6 := zA (Kd.R_at hq_ HO_6.out); replace HO_9 := zA (Kd.R_at hq_ HO_9.out); replace HO_344003 := zA (Kd.R_at hq_ HO_344003.out); replace HO369 := zA (Kd.R_at hq_ HO369.out); replace HO375 := zA (Kd.R_at hq_ HO375.out); replace HO378 := zA (Kd.R_at hq_ HO378.out); replace BK320 := zA (blk_at hq_ BK320.out); replace BK343 := zA (blk_at hq_ BK343.out); replace HB := zA (below_at hq_ HB.out); clear hq_))
            have H := HC106.out
            clear HC106
            by_cases c107 : t380 < 0
            ·rw [if_pos c107] at H
             have c107b0 : decide (t380 < 0) = true := decide_eq_true c107
             clear c107
             have HC108 := zA H
             clear H
             go_upto_region 36 with (fail)
             have H := HC108.out
             clear HC108
             exact absurd H zq89
            ·rw [if_neg c107] at H
             have c107b0 : decide (t380 < 0) = false := decide_eq_false c107
             clear c107
             have HC109 := zA H
             clear H
             go_upto_region 37 with (fail)
             have H := HC109.out
             clear HC109
             by_cases c110 : t380 = t364
             ·rw [if_pos c110] at H
              have c110b0 : (t380 == t364) = true := beq_iff_eq.mpr c110
              have c110b1 : (t380 != t364) = false := bne_eq_false_iff_eq.mpr c110
              clear c110
              have HC111 := zA H
              clear H
              go_upto_region 39 with (fail)
              have H := HC111.out
              clear HC111
              obtain rfl := Option.some.inj H
              go_wp2
              go_ret
              exact ⟨zq2, zq5⟩
             ·rw [if_neg c110] at H
              have c110b0 : (t380 == t364) = false := beq_eq_false_iff_ne.mpr c110
              have c110b1 : (t380 != t364) = true := bne_iff_ne.mpr c110
              have HC112 := zA H
              clear H
              go_upto_region 38 with (fail)
              have H := HC112.out
              clear HC112
              exact absurd H zq89
           ·replace c101 := Bool.eq_false_iff.mpr c101
            subst c101
            rw [if_neg zF] at H
            have HC113 := zA H
            clear H
            obtain ⟨Ao114, co114, eo114⟩ := Kd.R_slice HO378.out
            subst eo114
            go_upto_region 32 with (first | ((with_reducible refine gate_callee (f := 35) rfl ?_); refine goesL_ (some 80) rfl rfl Try.func35 (by kernel_rfl) rfl #[.slice Ao114 t376.length co114, .slice Ao48 t331.length co48] rfl zq1 ?_; (with_reducible refine (laws_eqByteS.calls kj71 _ _ t376 _ _ t331 false _ ?side1 ?side2 ?side3 ?side4 A100.out).mono ?_); (case side1 => repeat (first | exact (Kd.R_reads' HO378.out).2.2 | (with_reducible refine Kd.C_alloc ?_ _) | (with_reducible refine Kd.C_drewN ?_ _) | (with_reducible refine Kd.C_drew ?_))); (case side2 => exact (Kd.R_reads' HO378.out).2.1); (case side3 => repeat (first | exact (Kd.R_reads' HO_6.out).2.2 | (with_reducible refine Kd.C_alloc ?_ _) | (with_reducible refine Kd.C_drewN ?_ _) | (with_reducible refine Kd.C_drew ?_))); (case side4 => exact (Kd.R_reads' HO_6.out).2.1); rintro e w' ⟨rfl, ⟨nd, rfl⟩⟩; refine ⟨_, rfl, ?_⟩))
            (try simp only [Act.put, List.setIfInBounds_toArray, List.set_cons_zero, List.set_cons_succ])
            (try (rw [drewN_self w99]; generalize hq_ : World.drewN w99 _ = w99; replace HO_6 := zA (Kd.R_at hq_ HO_6.out); replace HO_9 := zA (Kd.R_at hq_ HO_9.out); replace HO_344003 := zA (Kd.R_at hq_ HO_344003.out); replace HO369 := zA (Kd.R_at hq_ HO369.out); replace HO375 := zA (Kd.R_at hq_ HO375.out); replace HO378 := zA (Kd.R_at hq_ HO378.out); replace BK320 := zA (blk_at hq_ BK320.out); replace BK343 := zA (blk_at hq_ BK343.out); replace HB := zA (below_at hq_ HB.out); clear hq_))
            have H := HC113.out
            clear HC113
            exact absurd H zq89
          ·rw [if_neg c88] at H
           have c88b0 : (t366 == t364) = false := beq_eq_false_iff_ne.mpr c88
           have c88b1 : (t366 != t364) = true := bne_iff_ne.mpr c88
           have HC115 := zA H
           clear H
           go_upto_region 29 with (fail)
           have H := HC115.out
           clear HC115
           exact absurd H zq89
     ·replace c57 := Bool.eq_false_iff.mpr c57
      subst c57
      rw [if_neg zF] at H
      have HC116 := zA H
      clear H
      try go_wp2
      have n0_ := zA (Kd.R_drew HO324.out)
      have n1_ := zA (Kd.R_drew HO330.out)
      have n2_ := zA (Kd.R_drew HO333.out)
      have n3_ := zA (Kd.R_drew HO336.out)
      have n4_ := zA (Kd.R_drew HO342.out)
      have n5_ := zA (Kd.R_drew HO346.out)
      have n6_ := zA (Kd.R_drew HO350.out)
      have n7_ := zA (blk_drew BK320.out)
      have n8_ := zA (blk_drew BK343.out)
      have n9_ := zA (below_drew1 HB.out)
      clear HO324
      clear HO330
      clear HO333
      clear HO336
      clear HO342
      clear HO346
      clear HO350
      clear BK320
      clear BK343
      clear HB
      have HO324 := n0_
      have HO330 := n1_
      have HO333 := n2_
      have HO336 := n3_
      have HO342 := n4_
      have HO346 := n5_
      have HO350 := n6_
      have BK320 := n7_
      have BK343 := n8_
      have HB := n9_
      clear n0_ n1_ n2_ n3_ n4_ n5_ n6_ n7_ n8_ n9_
      refine start_ (n := 5) (S := fun w' => w'.cell? ⟨gb343, 0, none⟩ = some (.int .i64 t337) ∧ w'.cell? ⟨gb343, 1, none⟩ = some (.int .i64 t338) ∧ w'.cell? ⟨gb343, 2, none⟩ = some (.string t339) ∧ w'.cell? ⟨gb343, 3, none⟩ = some (.slice Ao37 t340.length co37) ∧ w'.cell? ⟨gb320, 0, none⟩ = some (.int .i64 a1_0) ∧ w'.cell? ⟨gb320, 1, none⟩ = some (.int .i64 a1_1) ∧ w'.cell? ⟨gb320, 2, none⟩ = some (.string a1_2) ∧ w'.cell? ⟨gb320, 3, none⟩ = some (.slice A1_3 l1_3.length c1_3)) (ds := []) #[false, false, false, false, false] (by kernel_rfl) rfl rfl ⟨(blk_cell BK343.out 0).trans rfl, (blk_cell BK343.out 1).trans rfl, (blk_cell BK343.out 2).trans rfl, (blk_cell BK343.out 3).trans rfl, (blk_cell BK320.out 0).trans rfl, (blk_cell BK320.out 1).trans rfl, (blk_cell BK320.out 2).trans rfl, (blk_cell BK320.out 3).trans rfl⟩ (fun hHeld => ?_)
      generalize w53.drew = w117 at HO324 HO330 HO333 HO336 HO342 HO346 HO350 BK320 BK343 HB hHeld ⊢
      refine take_ (i := 0) (N := some 43) (v := ?_) (a' := ?_) #[true, false, false, false, false] rfl rfl (by kernel_rfl) (fun _ _ _ h => h) (Or.inl ⟨zq72, ?_⟩) hHeld ?_ ?_
      rotate_left
      ·rintro w' ⟨s0, s1, s2, s3, s4, s5, s6, s7⟩
       go_simp
       with_reducible rfl
      rotate_left
      ·simp only [Act.put, List.setIfInBounds_toArray, List.set_cons_zero, List.set_cons_succ, i64_w, i32_w]
       rfl
      refine take_ (i := 1) (N := some 44) (v := ?_) (a' := ?_) #[true, true, false, false, false] rfl rfl (by kernel_rfl) (fun _ _ _ h => h) (Or.inl ⟨zq72, ?_⟩) hHeld ?_ ?_
      rotate_left
      ·rintro w' ⟨s0, s1, s2, s3, s4, s5, s6, s7⟩
       go_simp
       with_reducible rfl
      rotate_left
      ·simp only [Act.put, List.setIfInBounds_toArray, List.set_cons_zero, List.set_cons_succ, i64_w, i32_w]
       rfl
      refine one_ (i := 2) (N := some 45) #[true, true, true, false, false] rfl rfl (by kernel_rfl) zq37 (fun K hK => ?_)
      refine goes_ Try.func69 (by kernel_rfl) rfl #[.agg #[.int .i64 a1_0, .int .i64 a1_1, .string a1_2, .slice A1_3 l1_3.length c1_3]] zq72 rfl rfl zq1 ?_
      with_reducible refine (laws_toVal.calls k a1_0 a1_1 a1_2 _ _ l1_3 t352 t353 t354 t355 _ ?side1 ?side2 A55.out).mono ?_
      (case side1 => repeat (first | exact (Kd.C_below HR1_3.out HB.out) | (with_reducible refine Kd.C_alloc ?_ _) | (with_reducible refine Kd.C_drewN ?_ _) | (with_reducible refine Kd.C_drew ?_)))
      (case side2 => exact HC1_3.out)
      rintro e w118 ⟨v356, rfl, ho0, hb⟩
      refine ⟨_, rfl, ?_⟩
      have n0_ := zA (Kd.R_below zq18 hb)
      have n1_ := zA (Kd.R_elder' zq22 (Kd.R_base ho0) hb)
      have n2_ := zA (Kd.R_below zq24 hb)
      have n3_ := zA (Kd.R_below zq27 hb)
      have n4_ := zA (Kd.R_elder' zq28 (Kd.R_base ho0) hb)
      have n5_ := zA (Kd.R_below zq30 hb)
      have n6_ := zA (Kd.R_below zq51 hb)
      have n7_ := zA (Kd.R_lower (Kd.R_new' (Kd.R_new' ho0 (Kd.R_lt zq22)) (Kd.R_lt zq28)) (below_size zq5))
      have n8_ := zA (blk_below (g := gb320) (o := .cells #[.int .i64 a1_0, .int .i64 a1_1, .string a1_2, .slice A1_3 l1_3.length c1_3] 73 (0, 0)) zq11 hb)
      have n9_ := zA (blk_below (g := gb343) (o := .cells #[.int .i64 t337, .int .i64 t338, .string t339, .slice Ao37 t340.length co37] 76 (0, 0)) zq17 hb)
      have n10_ := zA (below_step zq5 hb)
      clear HO324
      clear HO330
      clear HO333
      clear HO336
      clear HO342
      clear HO346
      clear HO350
      clear BK320
      clear BK343
      clear HB
      have HO324 := n0_
      have HO330 := n1_
      have HO333 := n2_
      have HO336 := n3_
      have HO342 := n4_
      have HO346 := n5_
      have HO350 := n6_
      have HO357 := n7_
      have BK320 := n8_
      have BK343 := n9_
      have HB := n10_
      clear n0_ n1_ n2_ n3_ n4_ n5_ n6_ n7_ n8_ n9_ n10_
      (try clear hb)
      (try clear hb2)
      (try clear hk)
      (try clear hi)
      (try clear ho0)
      obtain ⟨Ao119, co119, eo119⟩ := Kd.R_slice HO357.out
      (first | subst eo119 | (injection eo119 with f1_ f2_ f3_; have f4_ := f1_.symm; have f5_ := f3_.symm; clear f1_ f2_ f3_; subst f4_; subst f5_))
      refine hK.out _ _ ⟨(blk_cell BK343.out 0).trans rfl, (blk_cell BK343.out 1).trans rfl, (blk_cell BK343.out 2).trans rfl, (blk_cell BK343.out 3).trans rfl, (blk_cell BK320.out 0).trans rfl, (blk_cell BK320.out 1).trans rfl, (blk_cell BK320.out 2).trans rfl, (blk_cell BK320.out 3).trans rfl⟩ (fun hHeld => ?_)
      clear hK K
      refine norm_ (a' := ?_) ?_ ?_
      rotate_left
      ·show Act.put _ (some 45) _ = _
       simp only [Act.put, List.setIfInBounds_toArray, List.set_cons_zero, List.set_cons_succ, i64_w, i32_w]
       rfl
      refine one_ (i := 3) (N := some 46) #[true, true, true, true, false] rfl rfl (by kernel_rfl) zq37 (fun K hK => ?_)
      refine goes_ Try.func71 (by kernel_rfl) rfl #[.agg #[.int .i64 t337, .int .i64 t338, .string t339, .slice Ao37 t340.length co37], .agg #[.int .i64 t352, .int .i64 t353, .string t354, .slice Ao119 t355.length co119]] zq72 rfl rfl zq1 ?_
      with_reducible refine (laws_eqVal.calls k t337 t338 t339 _ _ t340 t352 t353 t354 _ _ t355 false _ ?side1 ?side2 ?side3 ?side4 A56.out).mono ?_
      (case side1 => repeat (first | exact (Kd.R_reads' HO342.out).2.2 | (with_reducible refine Kd.C_alloc ?_ _) | (with_reducible refine Kd.C_drewN ?_ _) | (with_reducible refine Kd.C_drew ?_)))
      (case side2 => exact (Kd.R_reads' HO342.out).2.1)
      (case side3 => repeat (first | exact (Kd.R_reads' HO357.out).2.2 | (with_reducible refine Kd.C_alloc ?_ _) | (with_reducible refine Kd.C_drewN ?_ _) | (with_reducible refine Kd.C_drew ?_)))
      (case side4 => exact (Kd.R_reads' HO357.out).2.1)
      rintro e w120 ⟨rfl, hb⟩
      refine ⟨_, rfl, ?_⟩
      have n0_ := zA (Kd.R_below zq18 hb)
      have n1_ := zA (Kd.R_below zq22 hb)
      have n2_ := zA (Kd.R_below zq24 hb)
      have n3_ := zA (Kd.R_below zq27 hb)
      have n4_ := zA (Kd.R_below zq28 hb)
      have n5_ := zA (Kd.R_below zq30 hb)
      have n6_ := zA (Kd.R_below zq51 hb)
      have n7_ := zA (Kd.R_below zq86 hb)
      have n8_ := zA (blk_below (g := gb320) (o := .cells #[.int .i64 a1_0, .int .i64 a1_1, .string a1_2, .slice A1_3 l1_3.length c1_3] 73 (0, 0)) zq11 hb)
      have n9_ := zA (blk_below (g := gb343) (o := .cells #[.int .i64 t337, .int .i64 t338, .string t339, .slice Ao37 t340.length co37] 76 (0, 0)) zq17 hb)
      have n10_ := zA (below_step zq5 hb)
      clear HO324
      clear HO330
      clear HO333
      clear HO336
      clear HO342
      clear HO346
      clear HO350
      clear HO357
      clear BK320
      clear BK343
      clear HB
      have HO324 := n0_
      have HO330 := n1_
      have HO333 := n2_
      have HO336 := n3_
      have HO342 := n4_
      have HO346 := n5_
      have HO350 := n6_
      have HO357 := n7_
      have BK320 := n8_
      have BK343 := n9_
      have HB := n10_
      clear n0_ n1_ n2_ n3_ n4_ n5_ n6_ n7_ n8_ n9_ n10_
      (try clear hb)
      (try clear hb2)
      (try clear hk)
      (try clear hi)
      refine hK.out _ _ ⟨(blk_cell BK343.out 0).trans rfl, (blk_cell BK343.out 1).trans rfl, (blk_cell BK343.out 2).trans rfl, (blk_cell BK343.out 3).trans rfl, (blk_cell BK320.out 0).trans rfl, (blk_cell BK320.out 1).trans rfl, (blk_cell BK320.out 2).trans rfl, (blk_cell BK320.out 3).trans rfl⟩ (fun hHeld => ?_)
      clear hK K
      refine norm_ (a' := ?_) ?_ ?_
      rotate_left
      ·show Act.put _ (some 46) _ = _
       simp only [Act.put, List.setIfInBounds_toArray, List.set_cons_zero, List.set_cons_succ, i64_w, i32_w]
       rfl
      refine pure_ (i := 4) (N := some 47) (v := ?_) (a' := ?_) #[true, true, true, true, true] rfl rfl (by kernel_rfl) (fun _ _ _ h => h) (Or.inl ⟨zq72, ?_⟩) ?_ ?_
      rotate_left
      ·intro w'
       go_simp
       with_reducible rfl
      rotate_left
      ·simp only [Act.put, List.setIfInBounds_toArray, List.set_cons_zero, List.set_cons_succ, i64_w, i32_w]
       rfl
      refine done_ (by kernel_rfl) ?_
      go_upto_region 16 with (fail)
      have H := HC116.out
      clear HC116
      exact absurd H zq89
    ·replace c51 := Bool.eq_false_iff.mpr c51
     subst c51
     rw [if_neg zF] at H
     have HC121 := zA H
     clear H
     go_upto_region 14 with (first | ((with_reducible refine gate_callee (f := 32) rfl ?_); refine goesL_ (some 40) rfl rfl Try.func32 (by kernel_rfl) rfl #[.slice A0 l0.length c0] rfl zq1 ?_; (with_reducible refine (laws_toByteS.calls k _ _ l0 t348 _ ?side1 ?side2 A49.out).mono ?_); (case side1 => repeat (first | exact (Kd.C_below HR0.out HB.out) | (with_reducible refine Kd.C_alloc ?_ _) | (with_reducible refine Kd.C_drewN ?_ _) | (with_reducible refine Kd.C_drew ?_))); (case side2 => exact HC0.out); rintro e w122 ⟨v349, rfl, ho0, hb⟩; refine ⟨_, rfl, ?_⟩; replace HO330 := zA (Kd.R_below zq22 hb); replace HO342 := zA (Kd.R_below zq28 hb); have HO350 := zA (Kd.R_lower (Kd.R_new' (Kd.R_new' (Kd.R_new' (Kd.R_new' ho0 (Kd.R_lt zq18)) (Kd.R_lt zq24)) (Kd.R_lt zq27)) (Kd.R_lt zq30)) (below_size zq5)); replace HO324 := zA (Kd.R_elder' zq18 (Kd.R_base ho0) hb); replace HO333 := zA (Kd.R_elder' zq24 (Kd.R_base ho0) hb); replace HO336 := zA (Kd.R_elder' zq27 (Kd.R_base ho0) hb); replace HO346 := zA (Kd.R_elder' zq30 (Kd.R_base ho0) hb); replace BK320 := zA (blk_below (g := gb320) (o := .cells #[.int .i64 a1_0, .int .i64 a1_1, .string a1_2, .slice A1_3 l1_3.length c1_3] 73 (0, 0)) zq11 hb); replace BK343 := zA (blk_below (g := gb343) (o := .cells #[.int .i64 t337, .int .i64 t338, .string t339, .slice Ao37 t340.length co37] 76 (0, 0)) zq17 hb); replace HB := zA (below_step zq5 hb); clear hb ho0; obtain ⟨Ao123, co123, eo123⟩ := Kd.R_slice HO350.out; subst eo123) | ((with_reducible refine gate_callee (f := 35) rfl ?_); refine goesL_ (some 41) rfl rfl Try.func35 (by kernel_rfl) rfl #[.slice Ao42 t334.length co42, .slice Ao123 t348.length co123] rfl zq1 ?_; (with_reducible refine (laws_eqByteS.calls k _ _ t334 _ _ t348 false _ ?side1 ?side2 ?side3 ?side4 A50.out).mono ?_); (case side1 => repeat (first | exact (Kd.R_reads' HO336.out).2.2 | (with_reducible refine Kd.C_alloc ?_ _) | (with_reducible refine Kd.C_drewN ?_ _) | (with_reducible refine Kd.C_drew ?_))); (case side2 => exact (Kd.R_reads' HO336.out).2.1); (case side3 => repeat (first | exact (Kd.R_reads' HO350.out).2.2 | (with_reducible refine Kd.C_alloc ?_ _) | (with_reducible refine Kd.C_drewN ?_ _) | (with_reducible refine Kd.C_drew ?_))); (case side4 => exact (Kd.R_reads' HO350.out).2.1); rintro e w' ⟨rfl, ⟨nd, rfl⟩⟩; refine ⟨_, rfl, ?_⟩))
     (try simp only [Act.put, List.setIfInBounds_toArray, List.set_cons_zero, List.set_cons_succ])
     (try (rw [drewN_self w122]; generalize hq_ : World.drewN w122 _ = w122; replace HO324 := zA (Kd.R_at hq_ HO324.out); replace HO330 := zA (Kd.R_at hq_ HO330.out); replace HO333 := zA (Kd.R_at hq_ HO333.out); replace HO336 := zA (Kd.R_at hq_ HO336.out); replace HO342 := zA (Kd.R_at hq_ HO342.out); replace HO346 := zA (Kd.R_at hq_ HO346.out); replace HO350 := zA (Kd.R_at hq_ HO350.out); replace BK320 := zA (blk_at hq_ BK320.out); replace BK343 := zA (blk_at hq_ BK343.out); replace HB := zA (below_at hq_ HB.out); clear hq_))
     have H := HC121.out
     clear HC121
     exact absurd H zq89
   ·replace c45 := Bool.eq_false_iff.mpr c45
    subst c45
    rw [if_neg zF] at H
    have HC124 := zA H
    clear H
    obtain ⟨Ao125, co125, eo125⟩ := Kd.R_slice HO346.out
    subst eo125
    obtain ⟨Ao126, co126, eo126⟩ := Kd.R_slice HO333.out
    subst eo126
    go_upto_region 12 with (first | ((with_reducible refine gate_callee (f := 35) rfl ?_); refine goesL_ (some 36) rfl rfl Try.func35 (by kernel_rfl) rfl #[.slice Ao125 t344.length co125, .slice Ao126 t331.length co126] rfl zq1 ?_; (with_reducible refine (laws_eqByteS.calls k _ _ t344 _ _ t331 false _ ?side1 ?side2 ?side3 ?side4 A44.out).mono ?_); (case side1 => repeat (first | exact (Kd.R_reads' HO346.out).2.2 | (with_reducible refine Kd.C_alloc ?_ _) | (with_reducible refine Kd.C_drewN ?_ _) | (with_reducible refine Kd.C_drew ?_))); (case side2 => exact (Kd.R_reads' HO346.out).2.1); (case side3 => repeat (first | exact (Kd.R_reads' HO333.out).2.2 | (with_reducible refine Kd.C_alloc ?_ _) | (with_reducible refine Kd.C_drewN ?_ _) | (with_reducible refine Kd.C_drew ?_))); (case side4 => exact (Kd.R_reads' HO333.out).2.1); rintro e w' ⟨rfl, ⟨nd, rfl⟩⟩; refine ⟨_, rfl, ?_⟩))
    (try simp only [Act.put, List.setIfInBounds_toArray, List.set_cons_zero, List.set_cons_succ])
    (try (rw [drewN_self w43]; generalize hq_ : World.drewN w43 _ = w43; replace HO324 := zA (Kd.R_at hq_ HO324.out); replace HO330 := zA (Kd.R_at hq_ HO330.out); replace HO333 := zA (Kd.R_at hq_ HO333.out); replace HO336 := zA (Kd.R_at hq_ HO336.out); replace HO342 := zA (Kd.R_at hq_ HO342.out); replace HO346 := zA (Kd.R_at hq_ HO346.out); replace BK320 := zA (blk_at hq_ BK320.out); replace BK343 := zA (blk_at hq_ BK343.out); replace HB := zA (below_at hq_ HB.out); clear hq_))
    have H := HC124.out
    clear HC124
    exact absurd H zq89

end Go.Proofs.Ytkcgghgkmgbphaa.PFnExactPutVal
