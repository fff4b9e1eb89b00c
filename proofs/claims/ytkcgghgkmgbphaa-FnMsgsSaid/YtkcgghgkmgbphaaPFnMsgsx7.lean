-- WRITTEN BY a turned copy of the kit's printer (wip/patch_print.py), for this claim
import Derived.Test.YtkcgghgkmgbphaaPFnMsgsx0
import Derived.Test.YtkcgghgkmgbphaaPFnMsgsx4
import Derived.Test.YtkcgghgkmgbphaaPFnMsgsx6
namespace Go.Proofs.Ytkcgghgkmgbphaa.PFnMsgs
open Go.RowKit Go.Proofs.YtkcgghgkmgbphaaW.PrintWords Go.Proofs.YtkcgghgkmgbphaaW.PrintLast Go.Proofs.YtkcgghgkmgbphaaW.PrintMore
attribute [local go_sem] max2_int min2_int max_two min_two max_three min_three max_four min_four   -- for this text's walks alone
set_option linter.unusedVariables false
set_option linter.unusedSimpArgs false
set_option maxHeartbeats 8000000
set_option maxRecDepth 100000

attribute [local go_sem] cell_setCell_m
/-! ### spec_PutVal: function 68 -/
def spec_PutVal.f (k : Nat) (l0 : List Int) (a1_0 : Int) (a1_1 : Int) (a1_2 : ByteArray) (l1_3 : List Int) : Option (List Int) := (spec_ValOk.f k a1_0 a1_1 a1_2 l1_3).bind fun t194 => (if t194 = true then (if a1_0 = 2 then ((spec_PutInt.f k a1_1).bind fun t204 => ((spec_PutTlv.f k l0 a1_0 t204).bind fun t207 => (some t207))) else (if a1_0 = 4 then (if a1_2.size ≤ 140737488355328 then ((spec_PutTlv.f k l0 a1_0 ((bytesOf a1_2 : List Int))).bind fun t213 => (some t213)) else (none)) else (if a1_0 = 6 then ((spec_PutOid.f k l1_3).bind fun t216 => ((spec_PutTlv.f k l0 a1_0 t216).bind fun t219 => (some t219))) else ((spec_PutTlv.f k l0 a1_0 (([] : List Int))).bind fun t222 => (some t222))))) else ((some (([] : List Int) : List Int)).bind fun y195 => (if y195.length + l0.length < 140737488355328 then (some (y195 ++ l0)) else (none))))
theorem spec_PutVal.mono : ∀ a0 a1 a2 a3 a4 k, LeO (spec_PutVal.f k a0 a1 a2 a3 a4) (spec_PutVal.f (k + 1) a0 a1 a2 a3 a4) := by
 intro a0 a1 a2 a3 a4 k
 unfold spec_PutVal.f
 have m0_ := @spec_PutInt.mono
 have m1_ := @spec_PutOid.mono
 have m2_ := @spec_PutTlv.mono
 have m3_ := @spec_ValOk.mono
 exact zR
theorem spec_PutVal.calls (k : Nat) (A0 : Option Addr) (c0 : Nat) (l0 : List Int) (a1_0 : Int) (a1_1 : Int) (a1_2 : ByteArray) (A1_3 : Option Addr) (c1_3 : Nat) (l1_3 : List Int) (r : List Int) (w : World) (hr0 : Kd.C (Kd.int .u8) w A0 l0.length l0) (hc0 : l0.length ≤ c0) (hr1_3 : Kd.C (Kd.int .i64) w A1_3 l1_3.length l1_3) (hc1_3 : l1_3.length ≤ c1_3) (h : spec_PutVal.f k l0 a1_0 a1_1 a1_2 l1_3 = some r) :
  Calls Try.prog 68 #[.slice A0 l0.length c0, .agg #[.int .i64 a1_0, .int .i64 a1_1, .string a1_2, .slice A1_3 l1_3.length c1_3]] w fun e w' => ∃ v0_ : Value, e = .returned (v0_) ∧ Kd.R (Kd.int .u8) 5 w' w.heap.size (fun _ => True) v0_ r ∧ Below w.heap.size w w' := by
 have hu76 := Try.underlying76
 have HR0 := zA hr0
 have HC0 := zA hc0
 clear hr0 hc0
 have HR1_3 := zA hr1_3
 have HC1_3 := zA hc1_3
 clear hr1_3 hc1_3
 have HB := zA (Below.refl w.heap.size w)
 unfold spec_PutVal.f at h
 have H := zA h
 clear h
 go_enter Try.func68, Try.ntmps68
 go_upto_region 0 with fail
 go_upto_region 1 with (first | ((with_reducible refine gate_dst (N := 3) rfl ?_); refine box_event ?hg (N := 3) ?hd (cs := #[.int .i64 a1_0, .int .i64 a1_1, .string a1_2, .slice A1_3 l1_3.length c1_3]) (t := 76) ?hr ?_; (case hd => rfl); (case hg => rfl); (case hr => exact zgs); intro gb193 hg w5 hbox hb; have BK193 := zA (hbox); have GW193 := zA ((zq5 : w.heap.size ≤ gb193)); have GE193 := zA ((zq5 : w.heap.size ≤ gb193)); replace HB := zA (below_step zq0 hb); clear hb hbox hg))
 (try simp only [zvs])
 replace H := zB H; obtain ⟨t194, A6, H⟩ := H
 try dsimp only at H
 replace H := zE H; rcases H with ⟨rfl, H⟩ | ⟨rfl, H⟩
 ·have hz9 := zc4 BK193.out
  go_upto_region 3 with (first | ((with_reducible refine zg91 rfl ?_); refine zl91 (some 7) #[.agg #[.int .i64 a1_0, .int .i64 a1_1, .string a1_2, .slice A1_3 l1_3.length c1_3]] ?_; (with_reducible refine (spec_ValOk.calls k a1_0 a1_1 a1_2 _ _ l1_3 true _ ?side1 ?side2 A6.out).mono ?_); (case side1 => exact zq101); (case side2 => exact HC1_3.out); rintro e w10 ⟨rfl, hb⟩; refine ⟨_, rfl, ?_⟩; replace BK193 := zA (zbb BK193.out hb); replace HB := zA (below_step zq0 hb); clear hb))
  (try simp only [zvs])
  obtain ⟨y201, hy201⟩ : ∃ y_ : List Int, y_ = (([] : List Int)) := ⟨_, rfl⟩
  rw [← hy201] at H
  have Ny201 := zA hy201
  clear hy201
  go_upto_region 4 with (first | ((with_reducible refine gate_dst (N := 12) rfl ?_); refine Kd.R_lit (Kd.int .u8) _ 5 ?hg (N := 12) ?hd (xs := ([] : List Int)) (inner := []) (ok := fun _ => True) (okp := fun _ => True) ?hr ?hp (fun _ hk => hk) trivial (Below.refl _ _) (Nat.le_refl _) zq219 ?_; (case hd => rfl); (case hg => rfl); (case hr => exact zgs); (case hp => exact (Reps.none _ _)); intro v202 w12 ho13 hb hg_ hnew_; clear hg_ hnew_; (first | rw [← Ny201.out] at ho13 | (simp only [Int.reduceToNat] at ho13; rw [← Ny201.out] at ho13)); have HO203 := zA (Kd.R_lower ho13 (below_size zq0)); replace BK193 := zA (zbb BK193.out hb); replace HB := zA (below_step zq0 hb); clear hb ho13))
  (try simp only [zvs])
  have hz15 := zc4 BK193.out
  go_upto_region 5 with fail
  replace H := zP H; rcases H with ⟨c16, H⟩ | ⟨c16, H⟩
  ·have c16b0 : (a1_0 == 2) = true := beq_iff_eq.mpr c16
   have c16b1 : (a1_0 != 2) = false := bne_eq_false_iff_eq.mpr c16
   clear c16
   go_upto_region 6 with fail
   replace H := zB H; obtain ⟨t204, A18, H⟩ := H
   try dsimp only at H
   have hz20 := zc4 BK193.out
   go_upto_region 11 with (first | ((with_reducible refine zg152 rfl ?_); refine zl152 (some 19) #[.int .i64 a1_1] ?_; (with_reducible refine (spec_PutInt.calls k a1_1 t204 _ A18.out).mono ?_); rintro e w21 ⟨v205, rfl, ho0, hb⟩; refine ⟨_, rfl, ?_⟩; have HO206 := zA (Kd.R_lower (Kd.R_new' ho0 (Kd.R_lt zq81)) (below_size zq0)); replace HO203 := zA (Kd.R_elder' zq81 (Kd.R_base ho0) hb); replace BK193 := zA (zbb BK193.out hb); replace HB := zA (below_step zq0 hb); clear hb ho0))
   (try simp only [zvs])
   replace H := zB H; obtain ⟨t207, A22, H⟩ := H
   try dsimp only at H
   obtain rfl := zi H
   have hz23 := zc4 BK193.out
   obtain ⟨Ao24, co24, eo24⟩ := Kd.R_slice HO206.out
   subst eo24
   go_wp2_with (first | ((with_reducible refine zg126 rfl ?_); refine zl126 (some 34) #[.slice A0 l0.length c0, .int .i64 a1_0, .slice Ao24 t204.length co24] ?_; (with_reducible refine (spec_PutTlv.calls k _ _ l0 a1_0 _ _ t204 t207 _ ?side1 ?side2 ?side3 ?side4 A22.out).mono ?_); (case side1 => exact zq18); (case side2 => exact HC0.out); (case side3 => exact (zck (Kd.R_reads' HO206.out).2.2)); (case side4 => exact (Kd.R_reads' HO206.out).2.1); rintro e w25 ⟨v208, rfl, ho0, hb⟩; refine ⟨_, rfl, ?_⟩; have HO209 := zA (Kd.R_lower (Kd.R_new' (Kd.R_new' ho0 (Kd.R_lt zq81)) (Kd.R_lt (zrk HO206.out))) (below_size zq0)); replace HO203 := zA (Kd.R_elder' zq81 (Kd.R_base ho0) hb); replace HO206 := zA (Kd.R_elder' (zrk HO206.out) (Kd.R_base ho0) hb); replace BK193 := zA (zbb BK193.out hb); replace HB := zA (below_step zq0 hb); clear hb ho0))
   go_ret
   exact ⟨_, zq1, (by (with_reducible repeat (first | apply Kd.R_alloc | apply Kd.R_drewN | apply Kd.R_drew)); exact Kd.R_mono HO209.out (fun _ hk => trivial)), zq0⟩
  have c16b0 : (a1_0 == 2) = false := beq_eq_false_iff_ne.mpr c16
  have c16b1 : (a1_0 != 2) = true := bne_iff_ne.mpr c16
  go_upto_region 7 with fail
  replace H := zP H; rcases H with ⟨c27, H⟩ | ⟨c27, H⟩
  ·have c27b0 : (a1_0 == 4) = true := beq_iff_eq.mpr c27
   have c27b1 : (a1_0 != 4) = false := bne_eq_false_iff_eq.mpr c27
   clear c27
   go_upto_region 8 with fail
   replace H := zN H; obtain ⟨c29, H⟩ := H
   have c29b0 := eq_true c29
   have c29b1 : decide (a1_2.size ≤ 140737488355328) = true := decide_eq_true c29
   clear c29
   obtain ⟨y210, hy210⟩ : ∃ y_ : List Int, y_ = ((bytesOf a1_2 : List Int)) := ⟨_, rfl⟩
   rw [← hy210] at H
   have Ny210 := zA hy210
   clear hy210
   have hz31 := zc4 BK193.out
   go_upto_region 11 with (first | ((with_reducible refine gate_dst (N := 24) rfl ?_); refine V_conv _ ?hg (N := 24) ?hd ?hx 9 22 5 ?ho Try.underlying9 Try.underlying22 Try.underlying5 a1_2 ?hr (ok := fun k_ => w12.heap.size ≤ k_) (Nat.le_refl _) ?hm (Below.refl _ _) (Nat.le_refl _) ?_; (case hd => rfl); (case hg => rfl); (case ho => rfl); (case hr => first | rfl | (go_simp; done) | (go_simp; rfl)); (case hm => exact of_decide_eq_true zq13); intro v211 w32 ho33 hb hg_ hnew_; clear hg_ hnew_; (first | rw [← Ny210.out] at ho33 | (simp only [Int.reduceToNat] at ho33; rw [← Ny210.out] at ho33)); have HO212 := zA (Kd.V_lower (Kd.V_mono (ok' := fun k_ => some k_ ≠ (v202 : Value).ownBlock ∧ k_ ≠ gb193) ho33 (fun k_ hk_ => ⟨(Kd.fresh' (Kd.R_lt zq81) k_ hk_), (Kd.freshB (g := gb193) (o := .cells #[.int .i64 a1_0, .int .i64 a1_1, .string a1_2, .slice A1_3 l1_3.length c1_3] 76 (0, 0)) (zbk BK193.out) k_ hk_)⟩)) (below_size zq0)); replace HO203 := zA (Kd.R_below zq81 hb); replace BK193 := zA (zbb BK193.out hb); replace HB := zA (below_step zq0 hb); clear hb ho33))
   (try simp only [zvs])
   (try (rw [drewN_self w32]; generalize hq_ : World.drewN w32 _ = w32; replace HO203 := zA (Kd.R_at hq_ HO203.out); replace HO212 := zA (Kd.V_at hq_ HO212.out); replace BK193 := zA (blk_at hq_ BK193.out); replace HB := zA (below_at hq_ HB.out); clear hq_))
   replace H := zB H; obtain ⟨t213, A34, H⟩ := H
   try dsimp only at H
   obtain rfl := zi H
   have hz35 := zc4 BK193.out
   obtain ⟨Ao36, co36, eo36⟩ := Kd.V_slice HO212.out
   subst eo36
   go_wp2_with (first | ((with_reducible refine zg126 rfl ?_); refine zl126 (some 34) #[.slice A0 l0.length c0, .int .i64 a1_0, .slice Ao36 y210.length co36] ?_; (with_reducible refine (spec_PutTlv.calls k _ _ l0 a1_0 _ _ y210 t213 _ ?side1 ?side2 ?side3 ?side4 A34.out).mono ?_); (case side1 => exact zq18); (case side2 => exact HC0.out); (case side3 => exact (by repeat (first | exact (Kd.V_reads' HO212.out).2.2 | (with_reducible refine Kd.C_alloc ?_ _) | (with_reducible refine Kd.C_drewN ?_ _) | (with_reducible refine Kd.C_drew ?_)))); (case side4 => exact (Kd.V_reads' HO212.out).2.1); rintro e w37 ⟨v214, rfl, ho0, hb⟩; refine ⟨_, rfl, ?_⟩; replace HO212 := zA (Kd.V_elder' (by (with_reducible repeat (first | apply Kd.V_alloc | apply Kd.V_drewN | apply Kd.V_drew)); exact HO212.out) (Kd.R_base ho0) hb); have HO215 := zA (Kd.R_lower (Kd.R_new' ho0 (Kd.R_lt zq81)) (below_size zq0)); replace HO203 := zA (Kd.R_elder' zq81 (Kd.R_base ho0) hb); replace BK193 := zA (zbb BK193.out hb); replace HB := zA (below_step zq0 hb); clear hb ho0))
   go_ret
   exact ⟨_, zq1, (by (with_reducible repeat (first | apply Kd.R_alloc | apply Kd.R_drewN | apply Kd.R_drew)); exact Kd.R_mono HO215.out (fun _ hk => trivial)), zq0⟩
  have c27b0 : (a1_0 == 4) = false := beq_eq_false_iff_ne.mpr c27
  have c27b1 : (a1_0 != 4) = true := bne_iff_ne.mpr c27
  go_upto_region 9 with fail
  replace H := zP H; rcases H with ⟨c39, H⟩ | ⟨c39, H⟩
  ·have c39b0 : (a1_0 == 6) = true := beq_iff_eq.mpr c39
   have c39b1 : (a1_0 != 6) = false := bne_eq_false_iff_eq.mpr c39
   clear c39
   go_upto_region 10 with fail
   replace H := zB H; obtain ⟨t216, A41, H⟩ := H
   try dsimp only at H
   have hz43 := zc4 BK193.out
   go_upto_region 11 with (first | ((with_reducible refine zg153 rfl ?_); refine zl153 (some 29) #[.slice A1_3 l1_3.length c1_3] ?_; (with_reducible refine (spec_PutOid.calls k _ _ l1_3 t216 _ ?side1 ?side2 A41.out).mono ?_); (case side1 => exact zq101); (case side2 => exact HC1_3.out); rintro e w44 ⟨v217, rfl, ho0, hb⟩; refine ⟨_, rfl, ?_⟩; have HO218 := zA (Kd.R_lower (Kd.R_new' ho0 (Kd.R_lt zq81)) (below_size zq0)); replace HO203 := zA (Kd.R_elder' zq81 (Kd.R_base ho0) hb); replace BK193 := zA (zbb BK193.out hb); replace HB := zA (below_step zq0 hb); clear hb ho0))
   (try simp only [zvs])
   replace H := zB H; obtain ⟨t219, A45, H⟩ := H
   try dsimp only at H
   obtain rfl := zi H
   have hz46 := zc4 BK193.out
   obtain ⟨Ao47, co47, eo47⟩ := Kd.R_slice HO218.out
   subst eo47
   go_wp2_with (first | ((with_reducible refine zg126 rfl ?_); refine zl126 (some 34) #[.slice A0 l0.length c0, .int .i64 a1_0, .slice Ao47 t216.length co47] ?_; (with_reducible refine (spec_PutTlv.calls k _ _ l0 a1_0 _ _ t216 t219 _ ?side1 ?side2 ?side3 ?side4 A45.out).mono ?_); (case side1 => exact zq18); (case side2 => exact HC0.out); (case side3 => exact (zck (Kd.R_reads' HO218.out).2.2)); (case side4 => exact (Kd.R_reads' HO218.out).2.1); rintro e w48 ⟨v220, rfl, ho0, hb⟩; refine ⟨_, rfl, ?_⟩; have HO221 := zA (Kd.R_lower (Kd.R_new' (Kd.R_new' ho0 (Kd.R_lt zq81)) (Kd.R_lt (zrk HO218.out))) (below_size zq0)); replace HO203 := zA (Kd.R_elder' zq81 (Kd.R_base ho0) hb); replace HO218 := zA (Kd.R_elder' (zrk HO218.out) (Kd.R_base ho0) hb); replace BK193 := zA (zbb BK193.out hb); replace HB := zA (below_step zq0 hb); clear hb ho0))
   go_ret
   exact ⟨_, zq1, (by (with_reducible repeat (first | apply Kd.R_alloc | apply Kd.R_drewN | apply Kd.R_drew)); exact Kd.R_mono HO221.out (fun _ hk => trivial)), zq0⟩
  have c39b0 : (a1_0 == 6) = false := beq_eq_false_iff_ne.mpr c39
  have c39b1 : (a1_0 != 6) = true := bne_iff_ne.mpr c39
  go_upto_region 11 with fail
  replace H := zB H; obtain ⟨t222, A50, H⟩ := H
  try dsimp only at H
  obtain rfl := zi H
  have hz51 := zc4 BK193.out
  obtain ⟨Ao52, co52, eo52⟩ := Kd.R_slice HO203.out
  subst eo52
  go_wp2_with (first | ((with_reducible refine zg126 rfl ?_); refine zl126 (some 34) #[.slice A0 l0.length c0, .int .i64 a1_0, .slice Ao52 y201.length co52] ?_; (with_reducible refine (spec_PutTlv.calls k _ _ l0 a1_0 _ _ y201 t222 _ ?side1 ?side2 ?side3 ?side4 A50.out).mono ?_); (case side1 => exact zq18); (case side2 => exact HC0.out); (case side3 => exact (zck (Kd.R_reads' HO203.out).2.2)); (case side4 => exact (Kd.R_reads' HO203.out).2.1); rintro e w53 ⟨v223, rfl, ho0, hb⟩; refine ⟨_, rfl, ?_⟩; have HO224 := zA (Kd.R_lower (Kd.R_new' ho0 (Kd.R_lt zq81)) (below_size zq0)); replace HO203 := zA (Kd.R_elder' zq81 (Kd.R_base ho0) hb); replace BK193 := zA (zbb BK193.out hb); replace HB := zA (below_step zq0 hb); clear hb ho0))
  go_ret
  exact ⟨_, zq1, (by (with_reducible repeat (first | apply Kd.R_alloc | apply Kd.R_drewN | apply Kd.R_drew)); exact Kd.R_mono HO224.out (fun _ hk => trivial)), zq0⟩
 have hz55 := zc4 BK193.out
 go_upto_region 2 with (first | ((with_reducible refine zg91 rfl ?_); refine zl91 (some 7) #[.agg #[.int .i64 a1_0, .int .i64 a1_1, .string a1_2, .slice A1_3 l1_3.length c1_3]] ?_; (with_reducible refine (spec_ValOk.calls k a1_0 a1_1 a1_2 _ _ l1_3 false _ ?side1 ?side2 A6.out).mono ?_); (case side1 => exact zq101); (case side2 => exact HC1_3.out); rintro e w56 ⟨rfl, hb⟩; refine ⟨_, rfl, ?_⟩; replace BK193 := zA (zbb BK193.out hb); replace HB := zA (below_step zq0 hb); clear hb))
 (try simp only [zvs])
 replace H := zS (([] : List Int)) H; obtain ⟨y195, Ny195, H⟩ := H
 replace H := zN H; obtain ⟨c57, H⟩ := H
 have LMc57 := zA c57
 clear c57
 obtain ⟨y198, hy198⟩ : ∃ y_ : List Int, y_ = (y195 ++ l0) := ⟨_, rfl⟩
 rw [← hy198] at H
 have Ny198 := zA hy198
 clear hy198
 obtain rfl := zi H
 go_wp2_with (first | ((with_reducible refine gate_dst (N := 9) rfl ?_); refine Kd.R_lit (Kd.int .u8) _ 5 ?hg (N := 9) ?hd (xs := ([] : List Int)) (inner := []) (ok := fun _ => True) (okp := fun _ => True) ?hr ?hp (fun _ hk => hk) trivial (Below.refl _ _) (Nat.le_refl _) zq219 ?_; (case hd => rfl); (case hg => rfl); (case hr => exact zgs); (case hp => exact (Reps.none _ _)); intro v196 w58 ho59 hb hg_ hnew_; clear hg_ hnew_; (first | rw [← Ny195.out] at ho59 | (simp only [Int.reduceToNat] at ho59; rw [← Ny195.out] at ho59)); have HO197 := zA (Kd.R_lower ho59 (below_size zq0)); replace BK193 := zA (zbb BK193.out hb); replace HB := zA (below_step zq0 hb); clear hb ho59) | ((with_reducible refine gate_builtin (b := .append) (xs := #[.tmp 9, .tmp 10]) rfl ?_); at_builtin; refine Kd.R_append_rows (Kd.int .u8) (w0 := w) w.heap.size rfl (.tmp 9) (.tmp 10) 22 5 (.int .u8 0) 1 rfl Try.underlying22 info5 rfl zq52 zq183 v196 y195 l0 _ _ _ (fun _ => True) (fun _ => False) rfl rfl ?aO ?aR (fun _ _ h => h) (fun _ h => h.elim) ?aF ?aB ?aS ?aL ?_; (case aR => exact zq18); (case aB => exact zq0); (case aF => exact (fun _ _ => trivial)); (case aO => exact (zrk HO197.out)); (case aS => exact (below_size zq0)); (case aL => have := LMc57.out; omega); intro v199 w60 ho hb hg hat; rw [← Ny198.out] at ho; replace BK193 := zA (blk_grown (g := gb193) (o := .cells #[.int .i64 a1_0, .int .i64 a1_1, .string a1_2, .slice A1_3 l1_3.length c1_3] 76 (0, 0)) (zbk BK193.out) hg (Kd.R_ne HO197.out BK193.out zq52)); replace HB := zA (hb); have HO200 := zA (ho); clear HO197; clear ho hb hg hat))
 go_ret
 exact ⟨_, zq1, (zrk HO200.out), zq0⟩

/-! ### spec_l4Binds: function 183 -/
def spec_l4Binds.l0 : Nat → List (S116) → List Int → Int → Option (List Int)
 | 0, _, _, _ => none
 | k + 1, x0, x3, x4 => if x4 < (x0.length : Int) then (if 0 ≤ x4 then ((spec_PutOid.f k ((rd_T116 x0 x4).f0)).bind fun t232 => ((spec_PutTlv.f k (([] : List Int)) 6 t232).bind fun t235 => ((spec_PutVal.f k t235 ((rd_T116 x0 x4).f1.f0) ((rd_T116 x0 x4).f1.f1) ((rd_T116 x0 x4).f1.f2) ((rd_T116 x0 x4).f1.f3)).bind fun t239 => ((spec_PutTlv.f k x3 48 t239).bind fun t242 => (spec_l4Binds.l0 k x0 t242 (wrap64 (x4 + 1))))))) else (none)) else (some x3)
def spec_l4Binds.f (k : Nat) (l0 : List (S116)) : Option (List Int) := spec_l4Binds.l0 k l0 (([] : List Int)) 0
theorem spec_l4Binds.mono_l : ∀ k, (∀ y0 y1 y2, LeO (spec_l4Binds.l0 k y0 y1 y2) (spec_l4Binds.l0 (k + 1) y0 y1 y2))
 | 0 => fun _ _ _ r h => by simp [spec_l4Binds.l0] at h
 | k + 1 => by
  have ih0 := spec_l4Binds.mono_l k
  ·intro y0 y1 y2
   unfold spec_l4Binds.l0
   have m0_ := @spec_PutOid.mono
   have m1_ := @spec_PutTlv.mono
   have m2_ := @spec_PutVal.mono
   exact zR
theorem spec_l4Binds.mono : ∀ a0 k, LeO (spec_l4Binds.f k a0) (spec_l4Binds.f (k + 1) a0) := by
 intro a0 k
 have ih0 := spec_l4Binds.mono_l k
 unfold spec_l4Binds.f
 have m0_ := @spec_PutOid.mono
 have m1_ := @spec_PutTlv.mono
 have m2_ := @spec_PutVal.mono
 exact zR
def spec_l4Binds.T5 : Bool × List (List Nat × List Nat) := (true, [([], []), ([], []), ([], []), ([1, 2], [1, 2]), ([3], [3]), ([4], [4]), ([5], [5]), ([0, 6, 6], [0, 6]), ([], []), ([], []), ([8, 9], [8, 9]), ([10], [10]), ([11], [11]), ([7, 12, 7], [7, 12]), ([13, 13, 0, 1, 2, 3, 4, 5, 6, 7, 8, 9, 10, 11, 12, 13], [13])])
def spec_l4Binds.B5 : List Nat := [0, 0, 0, 6, 14, 30, 62, 127, 0, 0, 768, 1792, 3840, 8191, 16383]
theorem spec_l4Binds.tab5 : rtab .any (opsOf Try.f183 5) = spec_l4Binds.T5 := by kernel_rfl
theorem spec_l4Binds.bits5 : waitsOk spec_l4Binds.T5.2 spec_l4Binds.B5 = true := by kernel_rfl
theorem spec_l4Binds.calls (k : Nat) (A0 : Option Addr) (c0 : Nat) (l0 : List (S116)) (r : List Int) (w : World) (hr0 : Kd.C k116 w A0 l0.length l0) (hc0 : l0.length ≤ c0) (h : spec_l4Binds.f k l0 = some r) :
  Calls Try.prog 183 #[.slice A0 l0.length c0] w fun e w' => ∃ v0_ : Value, e = .returned (v0_) ∧ Kd.R (Kd.int .u8) 5 w' w.heap.size (fun _ => True) v0_ r ∧ Below w.heap.size w w' := by
 have hu76 := Try.underlying76
 have HR0 := zA hr0
 have HC0 := zA hc0
 clear hr0 hc0
 have HB := zA (Below.refl w.heap.size w)
 unfold spec_l4Binds.f at h
 have H := zA h
 clear h
 go_enter Try.func183, Try.ntmps183
 go_upto_region 0 with fail
 go_upto_region 1 with fail
 obtain ⟨y225, hy225⟩ : ∃ y_ : List Int, y_ = (([] : List Int)) := ⟨_, rfl⟩
 rw [← hy225] at H
 have Ny225 := zA hy225
 clear hy225
 go_upto_region 2 with (first | ((with_reducible refine gate_dst (N := 6) rfl ?_); refine Kd.R_lit (Kd.int .u8) _ 5 ?hg (N := 6) ?hd (xs := ([] : List Int)) (inner := []) (ok := fun _ => True) (okp := fun _ => True) ?hr ?hp (fun _ hk => hk) trivial (Below.refl _ _) (Nat.le_refl _) zq219 ?_; (case hd => rfl); (case hg => rfl); (case hr => exact zgs); (case hp => exact (Reps.none _ _)); intro v226 w5 ho6 hb hg_ hnew_; clear hg_ hnew_; (first | rw [← Ny225.out] at ho6 | (simp only [Int.reduceToNat] at ho6; rw [← Ny225.out] at ho6)); have HO227 := zA (Kd.R_lower ho6 (below_size zq0)); replace HB := zA (below_step zq0 hb); clear hb ho6))
 (try simp only [zvs])
 have H' := H; clear H
 go_wp2
 go_loopg [3, 4] k (fun kq v3 v4 w' => ∃ (x3_1 : List Int) (x4_1 : Int), v4 = .int .i64 x4_1 ∧ Aside0 (spec_l4Binds.l0 kq l0 x3_1 x4_1 = some r) ∧ Aside0 (kq ≤ k) ∧ Aside0 (Kd.R (Kd.int .u8) 5 w' w.heap.size (fun _ => True) v3 x3_1) ∧ Aside0 (Below w.heap.size w w'))
 case atStart => exact ⟨(y225), (0), zq15, H', ⟨Nat.le_refl _⟩, ⟨(zrk HO227.out)⟩, ⟨zq0⟩⟩
 case round =>
  clear H'
  try clear c1
  try clear p2
  obtain ⟨x3_1, x4_1, rfl, HA, HK1, HO_3, HB⟩ := hrel
  cases gk with
  | zero => exact absurd HA.out (by simp [spec_l4Binds.l0])
  | succ k1 =>
   have H := HA
   clear HA
   simp only [spec_l4Binds.l0] at H
   go_upto_region 3 with fail
   replace H := zPd H; rcases H with ⟨c8b0, H⟩ | ⟨c8b0, H⟩
   ·go_upto_region 5 with fail
    obtain ⟨y228, hy228⟩ : ∃ y_ : List Int, y_ = (([] : List Int)) := ⟨_, rfl⟩
    rw [← hy228] at H
    have Ny228 := zA hy228
    clear hy228
    replace H := zNd H; obtain ⟨c10b0, H⟩ := H
    replace H := zB H; obtain ⟨t232, A11, H⟩ := H
    try dsimp only at H
    replace H := zB H; obtain ⟨t235, A12, H⟩ := H
    try dsimp only at H
    replace H := zB H; obtain ⟨t239, A13, H⟩ := H
    try dsimp only at H
    try go_wp2
    replace HO_3 := zA (Kd.R_drew HO_3.out)
    replace HB := zA (below_drew1 HB.out)
    have p231 : 0 ≤ (x4_1 : Int) := of_decide_eq_true zq13
    have q231 : x4_1 < (l0.length : Int) := of_decide_eq_true zq13
    obtain ⟨ad231, A231_0, c231_0, A231_4, c231_4, e231, hx231_0, hx231_1, hx231_2, hx231_3, hx231_4, hl231_0, hi231_0, hl231_4, hi231_4⟩ := at_T116 HR0.out x4_1 p231 q231
    have hw231_4 := hx231_4
    have hw231_3 := hx231_3
    have hw231_2 := hx231_2
    have hw231_1 := hx231_1
    have hw231_0 := hx231_0
    cases e231
    replace hx231_0 := zcl HB.out hx231_0
    replace hx231_1 := zcl HB.out hx231_1
    replace hx231_2 := zcl HB.out hx231_2
    replace hx231_3 := zcl HB.out hx231_3
    replace hx231_4 := zcl HB.out hx231_4
    have HR231_0 := zA hi231_0
    have HC231_0 := zA hl231_0
    clear hi231_0 hl231_0
    have HR231_4 := zA hi231_4
    have HC231_4 := zA hl231_4
    clear hi231_4 hl231_4
    replace p231 := eq_true p231
    replace q231 := eq_true q231
    have p238 : 0 ≤ (x4_1 : Int) := of_decide_eq_true zq13
    have q238 : x4_1 < (l0.length : Int) := of_decide_eq_true zq13
    obtain ⟨ad238, A238_0, c238_0, A238_4, c238_4, e238, hx238_0, hx238_1, hx238_2, hx238_3, hx238_4, hl238_0, hi238_0, hl238_4, hi238_4⟩ := at_T116 HR0.out x4_1 p238 q238
    have hw238_4 := hx238_4
    have hw238_3 := hx238_3
    have hw238_2 := hx238_2
    have hw238_1 := hx238_1
    have hw238_0 := hx238_0
    obtain rfl : ad231 = ad238 := (by injection e238)
    replace hx238_0 := zcl HB.out hx238_0
    replace hx238_1 := zcl HB.out hx238_1
    replace hx238_2 := zcl HB.out hx238_2
    replace hx238_3 := zcl HB.out hx238_3
    replace hx238_4 := zcl HB.out hx238_4
    have HR238_0 := zA hi238_0
    have HC238_0 := zA hl238_0
    clear hi238_0 hl238_0
    have HR238_4 := zA hi238_4
    have HC238_4 := zA hl238_4
    clear hi238_4 hl238_4
    replace p238 := eq_true p238
    replace q238 := eq_true q238
    have ea_ := Option.some.inj (hx231_0.symm.trans hx238_0)
    injection ea_ with ea_ en_ ec_
    subst ea_
    subst ec_
    clear en_
    have ea_ := Option.some.inj (hx231_4.symm.trans hx238_4)
    injection ea_ with ea_ en_ ec_
    subst ea_
    subst ec_
    clear en_
    refine start_ (n := 15) (S := fun w' => w'.cell? (ad231.add ((x4_1).toNat * 5)) = some (.slice A231_0 ((rd_T116 l0 x4_1).f0).length c231_0) ∧ w'.cell? ⟨(ad231.add ((x4_1).toNat * 5)).block, (ad231.add ((x4_1).toNat * 5)).off + 1, none⟩ = some (.int .i64 ((rd_T116 l0 x4_1).f1.f0)) ∧ w'.cell? ⟨(ad231.add ((x4_1).toNat * 5)).block, (ad231.add ((x4_1).toNat * 5)).off + 2, none⟩ = some (.int .i64 ((rd_T116 l0 x4_1).f1.f1)) ∧ w'.cell? ⟨(ad231.add ((x4_1).toNat * 5)).block, (ad231.add ((x4_1).toNat * 5)).off + 3, none⟩ = some (.string ((rd_T116 l0 x4_1).f1.f2)) ∧ w'.cell? ⟨(ad231.add ((x4_1).toNat * 5)).block, (ad231.add ((x4_1).toNat * 5)).off + 4, none⟩ = some (.slice A231_4 ((rd_T116 l0 x4_1).f1.f3).length c231_4) ∧ w'.cell? (ad231.add ((x4_1).toNat * 5)) = some (.slice A231_0 ((rd_T116 l0 x4_1).f0).length c231_0) ∧ w'.cell? ⟨(ad231.add ((x4_1).toNat * 5)).block, (ad231.add ((x4_1).toNat * 5)).off + 1, none⟩ = some (.int .i64 ((rd_T116 l0 x4_1).f1.f0)) ∧ w'.cell? ⟨(ad231.add ((x4_1).toNat * 5)).block, (ad231.add ((x4_1).toNat * 5)).off + 2, none⟩ = some (.int .i64 ((rd_T116 l0 x4_1).f1.f1)) ∧ w'.cell? ⟨(ad231.add ((x4_1).toNat * 5)).block, (ad231.add ((x4_1).toNat * 5)).off + 3, none⟩ = some (.string ((rd_T116 l0 x4_1).f1.f2)) ∧ w'.cell? ⟨(ad231.add ((x4_1).toNat * 5)).block, (ad231.add ((x4_1).toNat * 5)).off + 4, none⟩ = some (.slice A231_4 ((rd_T116 l0 x4_1).f1.f3).length c231_4)) (ds := []) (zv 15 0) (by kernel_rfl) rfl rfl ⟨(zcl HB.out hw231_0 :), (zcl HB.out hw231_1 :), (zcl HB.out hw231_2 :), (zcl HB.out hw231_3 :), (zcl HB.out hw231_4 :), (zcl HB.out hw238_0 :), (zcl HB.out hw238_1 :), (zcl HB.out hw238_2 :), (zcl HB.out hw238_3 :), (zcl HB.out hw238_4 :)⟩ (fun hHeld => ?_); refine with_tabW spec_l4Binds.tab5 spec_l4Binds.bits5 (fun HT_ HW_ => ?_)
    generalize wr.drew = w15 at HO_3 HB HR231_0 HR231_4 HR238_0 HR238_4 hx231_0 hx231_1 hx231_2 hx231_3 hx231_4 hx238_0 hx238_1 hx238_2 hx238_3 hx238_4 hHeld ⊢
    refine zyt 1 14 (zv 15 2) ?_
    refine zyt 2 15 (zv 15 6) ?_
    refine zyt 3 16 (zv 15 14) ?_
    refine zyt 4 17 (zv 15 30) ?_
    refine zyt 8 21 (zv 15 286) ?_
    refine zyt 9 22 (zv 15 798) ?_
    refine zyt 10 23 (zv 15 1822) ?_
    refine zyt 11 24 (zv 15 3870) ?_
    refine take_ (i := 5) (N := some 18) (v := ?_) (a' := ?_) (zv 15 3902) rfl rfl (take_ofW HT_.out HW_.out (by kernel_rfl)) (fun _ _ _ h => h) (Or.inl ⟨zq94, ?_⟩) hHeld ?_ ?_
    rotate_left
    ·rintro w' ⟨s0, s1, s2, s3, s4, s5, s6, s7, s8, s9⟩
     go_simp
     with_reducible rfl
    rotate_left
    ·simp only [zvs, i64_w, i32_w]
     rfl
    refine take_ (i := 12) (N := some 25) (v := ?_) (a' := ?_) (zv 15 7998) rfl rfl (take_ofW HT_.out HW_.out (by kernel_rfl)) (fun _ _ _ h => h) (Or.inl ⟨zq94, ?_⟩) hHeld ?_ ?_
    rotate_left
    ·rintro w' ⟨s0, s1, s2, s3, s4, s5, s6, s7, s8, s9⟩
     go_simp
     with_reducible rfl
    rotate_left
    ·simp only [zvs, i64_w, i32_w]
     rfl
    refine join_ (σ := Value × Value) 3 (zv 15 8063) (fun s_ => [(13, s_.1), (19, s_.2)]) (fun s_ w' => (w'.cell? (ad231.add ((x4_1).toNat * 5)) = some (.slice A231_0 ((rd_T116 l0 x4_1).f0).length c231_0) ∧ w'.cell? ⟨(ad231.add ((x4_1).toNat * 5)).block, (ad231.add ((x4_1).toNat * 5)).off + 1, none⟩ = some (.int .i64 ((rd_T116 l0 x4_1).f1.f0)) ∧ w'.cell? ⟨(ad231.add ((x4_1).toNat * 5)).block, (ad231.add ((x4_1).toNat * 5)).off + 2, none⟩ = some (.int .i64 ((rd_T116 l0 x4_1).f1.f1)) ∧ w'.cell? ⟨(ad231.add ((x4_1).toNat * 5)).block, (ad231.add ((x4_1).toNat * 5)).off + 3, none⟩ = some (.string ((rd_T116 l0 x4_1).f1.f2)) ∧ w'.cell? ⟨(ad231.add ((x4_1).toNat * 5)).block, (ad231.add ((x4_1).toNat * 5)).off + 4, none⟩ = some (.slice A231_4 ((rd_T116 l0 x4_1).f1.f3).length c231_4) ∧ w'.cell? (ad231.add ((x4_1).toNat * 5)) = some (.slice A231_0 ((rd_T116 l0 x4_1).f0).length c231_0) ∧ w'.cell? ⟨(ad231.add ((x4_1).toNat * 5)).block, (ad231.add ((x4_1).toNat * 5)).off + 1, none⟩ = some (.int .i64 ((rd_T116 l0 x4_1).f1.f0)) ∧ w'.cell? ⟨(ad231.add ((x4_1).toNat * 5)).block, (ad231.add ((x4_1).toNat * 5)).off + 2, none⟩ = some (.int .i64 ((rd_T116 l0 x4_1).f1.f1)) ∧ w'.cell? ⟨(ad231.add ((x4_1).toNat * 5)).block, (ad231.add ((x4_1).toNat * 5)).off + 3, none⟩ = some (.string ((rd_T116 l0 x4_1).f1.f2)) ∧ w'.cell? ⟨(ad231.add ((x4_1).toNat * 5)).block, (ad231.add ((x4_1).toNat * 5)).off + 4, none⟩ = some (.slice A231_4 ((rd_T116 l0 x4_1).f1.f3).length c231_4)) ∧ (Kd.R (Kd.int .u8) 5 w' w.heap.size (fun k_ => some k_ ≠ (s_.2 : Value).ownBlock ∧ some k_ ≠ (u3 : Value).ownBlock) s_.1 y228) ∧ (Kd.R (Kd.int .u8) 5 w' w.heap.size (fun k_ => some k_ ≠ (s_.1 : Value).ownBlock ∧ some k_ ≠ (u3 : Value).ownBlock) s_.2 t232) ∧ (Kd.R (Kd.int .u8) 5 w' w.heap.size (fun k_ => some k_ ≠ (s_.1 : Value).ownBlock ∧ some k_ ≠ (s_.2 : Value).ownBlock) u3 x3_1) ∧ (Below w.heap.size w w')) ?_ ?_
    rotate_left
    ·intro hCont
     refine two_ (i := 0) (j := 6) (Ni := some 13) (Nj := some 19) (zv 15 7999) (zv 15 8062) rfl rfl rfl rfl (two_of HT_.out (by kernel_rfl)) zq52 zq52 (fun K hK => ?_) (fun K hK => ?_)
     ·skip
      refine Kd.R_lit_step (Kd.int .u8) _ 5 ?hg (N := 13) ?hd (xs := ([] : List Int)) (inner := []) (ok := fun _ => True) (okp := fun _ => True) ?hr ?hp (fun _ hk => hk) trivial (Below.refl _ _) (Nat.le_refl _) zq219 ?_; (case hd => rfl); (case hg => rfl); (case hr => exact zgs); (case hp => exact (Reps.none _ _))
      intro v229 w16 ho17 hb hg_ hnew_
      clear hg_ hnew_
      (first | rw [← Ny228.out] at ho17 | (simp only [Int.reduceToNat] at ho17; rw [← Ny228.out] at ho17))
      have HO230 := zA (Kd.R_lower (Kd.R_new' ho17 (Kd.R_lt zq8)) (below_size zq0))
      replace HO_3 := zA (Kd.R_elder' zq8 (Kd.R_base ho17) hb)
      replace HB := zA (below_step zq0 hb)
      clear hb ho17
      refine hK.out _ _ ⟨(zcl HB.out hw231_0 :), (zcl HB.out hw231_1 :), (zcl HB.out hw231_2 :), (zcl HB.out hw231_3 :), (zcl HB.out hw231_4 :), (zcl HB.out hw238_0 :), (zcl HB.out hw238_1 :), (zcl HB.out hw238_2 :), (zcl HB.out hw238_3 :), (zcl HB.out hw238_4 :)⟩ (fun hHeld => ?_)
      clear hK K
      refine norm_ (a' := ?_) ?_ ?_
      rotate_left
      ·show Act.put _ (some 13) _ = _
       simp only [zvs, i64_w, i32_w]
       rfl
      refine one_ (i := 6) (N := some 19) (zv 15 8063) rfl rfl (one_of HT_.out (by kernel_rfl)) zq52 (fun K hK => ?_)
      refine goes_ Try.func153 (by kernel_rfl) rfl #[.slice A231_0 ((rd_T116 l0 x4_1).f0).length c231_0] zq94 rfl rfl zq20 ?_
      with_reducible refine (spec_PutOid.calls k1 _ _ ((rd_T116 l0 x4_1).f0) t232 _ ?side1 ?side2 A11.out).mono ?_
      (case side1 => exact zq258)
      (case side2 => exact HC231_0.out)
      rintro e w18 ⟨v233, rfl, ho0, hb⟩
      refine ⟨_, rfl, ?_⟩
      have HO234 := zA (Kd.R_lower (Kd.R_new' (Kd.R_new' ho0 (Kd.R_lt zq8)) (Kd.R_lt (zrk HO230.out))) (below_size zq0))
      replace HO_3 := zA (Kd.R_elder' zq8 (Kd.R_base ho0) hb)
      replace HO230 := zA (Kd.R_elder' (zrk HO230.out) (Kd.R_base ho0) hb)
      replace HB := zA (below_step zq0 hb)
      (try clear hb)
      (try clear hb2)
      (try clear hk)
      (try clear hi)
      (try clear ho0)
      refine hK.out _ _ ⟨(zcl HB.out hw231_0 :), (zcl HB.out hw231_1 :), (zcl HB.out hw231_2 :), (zcl HB.out hw231_3 :), (zcl HB.out hw231_4 :), (zcl HB.out hw238_0 :), (zcl HB.out hw238_1 :), (zcl HB.out hw238_2 :), (zcl HB.out hw238_3 :), (zcl HB.out hw238_4 :)⟩ (fun hHeld => ?_)
      clear hK K
      refine norm_ (a' := ?_) ?_ ?_
      rotate_left
      ·show Act.put _ (some 19) _ = _
       simp only [zvs, i64_w, i32_w]
       rfl
      exact norm_ zq218 (hCont (v229, v233) _ ⟨hHeld, zq262, zq263, (by (with_reducible repeat (first | apply Kd.R_alloc | apply Kd.R_drewN | apply Kd.R_drew)); exact Kd.R_mono HO_3.out (fun _ hk => ⟨hk.1.2, hk.2⟩)), zq0⟩)
     ·skip
      refine goes_ Try.func153 (by kernel_rfl) rfl #[.slice A231_0 ((rd_T116 l0 x4_1).f0).length c231_0] zq94 rfl rfl zq20 ?_
      with_reducible refine (spec_PutOid.calls k1 _ _ ((rd_T116 l0 x4_1).f0) t232 _ ?side1 ?side2 A11.out).mono ?_
      (case side1 => exact zq258)
      (case side2 => exact HC231_0.out)
      rintro e w16 ⟨v233, rfl, ho0, hb⟩
      refine ⟨_, rfl, ?_⟩
      have HO234 := zA (Kd.R_lower (Kd.R_new' ho0 (Kd.R_lt zq8)) (below_size zq0))
      replace HO_3 := zA (Kd.R_elder' zq8 (Kd.R_base ho0) hb)
      replace HB := zA (below_step zq0 hb)
      (try clear hb)
      (try clear hb2)
      (try clear hk)
      (try clear hi)
      (try clear ho0)
      refine hK.out _ _ ⟨(zcl HB.out hw231_0 :), (zcl HB.out hw231_1 :), (zcl HB.out hw231_2 :), (zcl HB.out hw231_3 :), (zcl HB.out hw231_4 :), (zcl HB.out hw238_0 :), (zcl HB.out hw238_1 :), (zcl HB.out hw238_2 :), (zcl HB.out hw238_3 :), (zcl HB.out hw238_4 :)⟩ (fun hHeld => ?_)
      clear hK K
      refine norm_ (a' := ?_) ?_ ?_
      rotate_left
      ·show Act.put _ (some 19) _ = _
       simp only [zvs, i64_w, i32_w]
       rfl
      refine one_ (i := 0) (N := some 13) (zv 15 8063) rfl rfl (one_of HT_.out (by kernel_rfl)) zq52 (fun K hK => ?_)
      refine Kd.R_lit_step (Kd.int .u8) _ 5 ?hg (N := 13) ?hd (xs := ([] : List Int)) (inner := []) (ok := fun _ => True) (okp := fun _ => True) ?hr ?hp (fun _ hk => hk) trivial (Below.refl _ _) (Nat.le_refl _) zq219 ?_; (case hd => rfl); (case hg => rfl); (case hr => exact zgs); (case hp => exact (Reps.none _ _))
      intro v229 w17 ho18 hb hg_ hnew_
      clear hg_ hnew_
      (first | rw [← Ny228.out] at ho18 | (simp only [Int.reduceToNat] at ho18; rw [← Ny228.out] at ho18))
      have HO230 := zA (Kd.R_lower (Kd.R_new' (Kd.R_new' ho18 (Kd.R_lt zq8)) (Kd.R_lt (zrk HO234.out))) (below_size zq0))
      replace HO_3 := zA (Kd.R_elder' zq8 (Kd.R_base ho18) hb)
      replace HO234 := zA (Kd.R_elder' (zrk HO234.out) (Kd.R_base ho18) hb)
      replace HB := zA (below_step zq0 hb)
      clear hb ho18
      refine hK.out _ _ ⟨(zcl HB.out hw231_0 :), (zcl HB.out hw231_1 :), (zcl HB.out hw231_2 :), (zcl HB.out hw231_3 :), (zcl HB.out hw231_4 :), (zcl HB.out hw238_0 :), (zcl HB.out hw238_1 :), (zcl HB.out hw238_2 :), (zcl HB.out hw238_3 :), (zcl HB.out hw238_4 :)⟩ (fun hHeld => ?_)
      clear hK K
      refine norm_ (a' := ?_) ?_ ?_
      rotate_left
      ·show Act.put _ (some 13) _ = _
       simp only [zvs, i64_w, i32_w]
       rfl
      exact norm_ zq218 (hCont (v229, v233) _ ⟨hHeld, zq262, zq263, (by (with_reducible repeat (first | apply Kd.R_alloc | apply Kd.R_drewN | apply Kd.R_drew)); exact Kd.R_mono HO_3.out (fun _ hk => ⟨hk.2, hk.1.2⟩)), zq0⟩)
    rintro ⟨v229, v233⟩ w19 ⟨hS_, h0_, h1_, h2_, h3_⟩
    have n0_ : Aside0 (Kd.R (Kd.int .u8) 5 w19 w.heap.size (fun k_ => some k_ ≠ (v233 : Value).ownBlock ∧ some k_ ≠ (u3 : Value).ownBlock) v229 y228) := ⟨h0_⟩
    have n1_ : Aside0 (Kd.R (Kd.int .u8) 5 w19 w.heap.size (fun k_ => some k_ ≠ (v229 : Value).ownBlock ∧ some k_ ≠ (u3 : Value).ownBlock) v233 t232) := ⟨h1_⟩
    have n2_ : Aside0 (Kd.R (Kd.int .u8) 5 w19 w.heap.size (fun k_ => some k_ ≠ (v229 : Value).ownBlock ∧ some k_ ≠ (v233 : Value).ownBlock) u3 x3_1) := ⟨h2_⟩
    have n3_ : Aside0 (Below w.heap.size w w19) := ⟨h3_⟩
    clear HO_3
    clear HB
    clear h0_ h1_ h2_ h3_
    have HO230 := n0_
    have HO234 := n1_
    have HO_3 := n2_
    have HB := n3_
    clear n0_ n1_ n2_ n3_
    have hHeld : w19.cell? (ad231.add ((x4_1).toNat * 5)) = some (.slice A231_0 ((rd_T116 l0 x4_1).f0).length c231_0) ∧ w19.cell? ⟨(ad231.add ((x4_1).toNat * 5)).block, (ad231.add ((x4_1).toNat * 5)).off + 1, none⟩ = some (.int .i64 ((rd_T116 l0 x4_1).f1.f0)) ∧ w19.cell? ⟨(ad231.add ((x4_1).toNat * 5)).block, (ad231.add ((x4_1).toNat * 5)).off + 2, none⟩ = some (.int .i64 ((rd_T116 l0 x4_1).f1.f1)) ∧ w19.cell? ⟨(ad231.add ((x4_1).toNat * 5)).block, (ad231.add ((x4_1).toNat * 5)).off + 3, none⟩ = some (.string ((rd_T116 l0 x4_1).f1.f2)) ∧ w19.cell? ⟨(ad231.add ((x4_1).toNat * 5)).block, (ad231.add ((x4_1).toNat * 5)).off + 4, none⟩ = some (.slice A231_4 ((rd_T116 l0 x4_1).f1.f3).length c231_4) ∧ w19.cell? (ad231.add ((x4_1).toNat * 5)) = some (.slice A231_0 ((rd_T116 l0 x4_1).f0).length c231_0) ∧ w19.cell? ⟨(ad231.add ((x4_1).toNat * 5)).block, (ad231.add ((x4_1).toNat * 5)).off + 1, none⟩ = some (.int .i64 ((rd_T116 l0 x4_1).f1.f0)) ∧ w19.cell? ⟨(ad231.add ((x4_1).toNat * 5)).block, (ad231.add ((x4_1).toNat * 5)).off + 2, none⟩ = some (.int .i64 ((rd_T116 l0 x4_1).f1.f1)) ∧ w19.cell? ⟨(ad231.add ((x4_1).toNat * 5)).block, (ad231.add ((x4_1).toNat * 5)).off + 3, none⟩ = some (.string ((rd_T116 l0 x4_1).f1.f2)) ∧ w19.cell? ⟨(ad231.add ((x4_1).toNat * 5)).block, (ad231.add ((x4_1).toNat * 5)).off + 4, none⟩ = some (.slice A231_4 ((rd_T116 l0 x4_1).f1.f3).length c231_4) := hS_
    obtain ⟨Ao20, co20, eo20⟩ := Kd.R_slice HO230.out
    (first | subst eo20 | (injection eo20 with f1_ f2_ f3_; have f4_ := f1_.symm; have f5_ := f3_.symm; clear f1_ f2_ f3_; subst f4_; subst f5_))
    obtain ⟨Ao21, co21, eo21⟩ := Kd.R_slice HO234.out
    (first | subst eo21 | (injection eo21 with f1_ f2_ f3_; have f4_ := f1_.symm; have f5_ := f3_.symm; clear f1_ f2_ f3_; subst f4_; subst f5_))
    refine norm_ (a' := ?_) ?_ ?_
    rotate_left
    ·simp only [putAll, Act.put, List.setIfInBounds_toArray, List.set_cons_zero, List.set_cons_succ]
     rfl
    refine one_ (i := 7) (N := some 20) (zv 15 8191) rfl rfl (one_of HT_.out (by kernel_rfl)) zq52 (fun K hK => ?_)
    refine goes_ Try.func126 (by kernel_rfl) rfl #[.slice Ao20 y228.length co20, .int .i64 6, .slice Ao21 t232.length co21] zq94 rfl rfl zq20 ?_
    with_reducible refine (spec_PutTlv.calls k1 _ _ y228 6 _ _ t232 t235 _ ?side1 ?side2 ?side3 ?side4 A12.out).mono ?_
    (case side1 => exact (zck (Kd.R_reads' HO230.out).2.2))
    (case side2 => exact (Kd.R_reads' HO230.out).2.1)
    (case side3 => exact (zck (Kd.R_reads' HO234.out).2.2))
    (case side4 => exact (Kd.R_reads' HO234.out).2.1)
    rintro e w22 ⟨v236, rfl, ho0, hb⟩
    refine ⟨_, rfl, ?_⟩
    have HO237 := zA (Kd.R_lower (Kd.R_new' (Kd.R_new' (Kd.R_new' ho0 (Kd.R_lt zq8)) (Kd.R_lt (zrk HO230.out))) (Kd.R_lt (zrk HO234.out))) (below_size zq0))
    replace HO_3 := zA (Kd.R_elder' zq8 (Kd.R_base ho0) hb)
    replace HO230 := zA (Kd.R_elder' (zrk HO230.out) (Kd.R_base ho0) hb)
    replace HO234 := zA (Kd.R_elder' (zrk HO234.out) (Kd.R_base ho0) hb)
    replace HB := zA (below_step zq0 hb)
    (try clear hb)
    (try clear hb2)
    (try clear hk)
    (try clear hi)
    (try clear ho0)
    obtain ⟨Ao23, co23, eo23⟩ := Kd.R_slice HO237.out
    (first | subst eo23 | (injection eo23 with f1_ f2_ f3_; have f4_ := f1_.symm; have f5_ := f3_.symm; clear f1_ f2_ f3_; subst f4_; subst f5_))
    refine hK.out _ _ ⟨(zcl HB.out hw231_0 :), (zcl HB.out hw231_1 :), (zcl HB.out hw231_2 :), (zcl HB.out hw231_3 :), (zcl HB.out hw231_4 :), (zcl HB.out hw238_0 :), (zcl HB.out hw238_1 :), (zcl HB.out hw238_2 :), (zcl HB.out hw238_3 :), (zcl HB.out hw238_4 :)⟩ (fun hHeld => ?_)
    clear hK K
    refine norm_ (a' := ?_) ?_ ?_
    rotate_left
    ·show Act.put _ (some 20) _ = _
     simp only [zvs, i64_w, i32_w]
     rfl
    refine one_ (i := 13) (N := some 26) (zv 15 16383) rfl rfl (one_of HT_.out (by kernel_rfl)) zq52 (fun K hK => ?_)
    refine goes_ Try.func68 (by kernel_rfl) rfl #[.slice Ao23 t235.length co23, .agg #[.int .i64 ((rd_T116 l0 x4_1).f1.f0), .int .i64 ((rd_T116 l0 x4_1).f1.f1), .string ((rd_T116 l0 x4_1).f1.f2), .slice A231_4 ((rd_T116 l0 x4_1).f1.f3).length c231_4]] zq94 rfl rfl zq20 ?_
    with_reducible refine (spec_PutVal.calls k1 _ _ t235 ((rd_T116 l0 x4_1).f1.f0) ((rd_T116 l0 x4_1).f1.f1) ((rd_T116 l0 x4_1).f1.f2) _ _ ((rd_T116 l0 x4_1).f1.f3) t239 _ ?side1 ?side2 ?side3 ?side4 A13.out).mono ?_
    (case side1 => exact (zck (Kd.R_reads' HO237.out).2.2))
    (case side2 => exact (Kd.R_reads' HO237.out).2.1)
    (case side3 => exact (by repeat (first | exact (Kd.C_below HR238_4.out HB.out) | (with_reducible refine Kd.C_alloc ?_ _) | (with_reducible refine Kd.C_drewN ?_ _) | (with_reducible refine Kd.C_drew ?_))))
    (case side4 => exact HC238_4.out)
    rintro e w24 ⟨v240, rfl, ho0, hb⟩
    refine ⟨_, rfl, ?_⟩
    have HO241 := zA (Kd.R_lower (Kd.R_new' (Kd.R_new' (Kd.R_new' (Kd.R_new' ho0 (Kd.R_lt zq8)) (Kd.R_lt (zrk HO230.out))) (Kd.R_lt (zrk HO234.out))) (Kd.R_lt (zrk HO237.out))) (below_size zq0))
    replace HO_3 := zA (Kd.R_elder' zq8 (Kd.R_base ho0) hb)
    replace HO230 := zA (Kd.R_elder' (zrk HO230.out) (Kd.R_base ho0) hb)
    replace HO234 := zA (Kd.R_elder' (zrk HO234.out) (Kd.R_base ho0) hb)
    replace HO237 := zA (Kd.R_elder' (zrk HO237.out) (Kd.R_base ho0) hb)
    replace HB := zA (below_step zq0 hb)
    (try clear hb)
    (try clear hb2)
    (try clear hk)
    (try clear hi)
    (try clear ho0)
    refine hK.out _ _ ⟨(zcl HB.out hw231_0 :), (zcl HB.out hw231_1 :), (zcl HB.out hw231_2 :), (zcl HB.out hw231_3 :), (zcl HB.out hw231_4 :), (zcl HB.out hw238_0 :), (zcl HB.out hw238_1 :), (zcl HB.out hw238_2 :), (zcl HB.out hw238_3 :), (zcl HB.out hw238_4 :)⟩ (fun hHeld => ?_)
    clear hK K
    refine norm_ (a' := ?_) ?_ ?_
    rotate_left
    ·show Act.put _ (some 26) _ = _
     simp only [zvs, i64_w, i32_w]
     rfl
    refine zyt 14 5 (zv 15 32767) ?_
    refine done_ (done_of HT_.out (by kernel_rfl)) ?_
    go_upto_region 6 with fail
    replace H := zB H; obtain ⟨t242, A25, H⟩ := H
    try dsimp only at H
    obtain ⟨Ao27, co27, eo27⟩ := Kd.R_slice HO_3.out
    subst eo27
    obtain ⟨Ao28, co28, eo28⟩ := Kd.R_slice HO241.out
    subst eo28
    go_upto_region 4 with (first | ((with_reducible refine zg126 rfl ?_); refine zl126 (some 29) #[.slice Ao27 x3_1.length co27, .int .i64 48, .slice Ao28 t239.length co28] ?_; (with_reducible refine (spec_PutTlv.calls k1 _ _ x3_1 48 _ _ t239 t242 _ ?side1 ?side2 ?side3 ?side4 A25.out).mono ?_); (case side1 => exact zq138); (case side2 => exact (Kd.R_reads' HO_3.out).2.1); (case side3 => exact (zck (Kd.R_reads' HO241.out).2.2)); (case side4 => exact (Kd.R_reads' HO241.out).2.1); rintro e w29 ⟨v243, rfl, ho0, hb⟩; refine ⟨_, rfl, ?_⟩; have HO244 := zA (Kd.R_lower (Kd.R_new' (Kd.R_new' (Kd.R_new' (Kd.R_new' (Kd.R_new' ho0 (Kd.R_lt zq8)) (Kd.R_lt (zrk HO230.out))) (Kd.R_lt (zrk HO234.out))) (Kd.R_lt (zrk HO237.out))) (Kd.R_lt (zrk HO241.out))) (below_size zq0)); replace HO_3 := zA (Kd.R_elder' zq8 (Kd.R_base ho0) hb); replace HO230 := zA (Kd.R_elder' (zrk HO230.out) (Kd.R_base ho0) hb); replace HO234 := zA (Kd.R_elder' (zrk HO234.out) (Kd.R_base ho0) hb); replace HO237 := zA (Kd.R_elder' (zrk HO237.out) (Kd.R_base ho0) hb); replace HO241 := zA (Kd.R_elder' (zrk HO241.out) (Kd.R_base ho0) hb); replace HB := zA (below_step zq0 hb); clear hb ho0))
    (try simp only [zvs])
    have H' := H; clear H
    go_wp2
    go_roundg k1
    case measure => have := HK1.out; omega
    case rel => exact ⟨(t242), (wrap64 (x4_1 + 1)), zq15, H', ⟨zq182⟩, ⟨(by (with_reducible repeat (first | apply Kd.R_alloc | apply Kd.R_drewN | apply Kd.R_drew)); exact Kd.R_mono HO244.out (fun _ hk => trivial))⟩, ⟨zq0⟩⟩
   go_upto_region 7 with fail
   obtain rfl := zi H
   go_wp2
   go_ret
   exact ⟨_, zq1, zq8, zq0⟩

end Go.Proofs.Ytkcgghgkmgbphaa.PFnMsgs
