-- WRITTEN BY a turned copy of the kit's printer (wip/patch_print.py), for this claim
import Derived.Test.YtkcgghgkmgbphaaPFnMsgsx0
import Derived.Test.YtkcgghgkmgbphaaPFnMsgsx6
import Derived.Test.YtkcgghgkmgbphaaPFnMsgsx8
namespace Go.Proofs.Ytkcgghgkmgbphaa.PFnMsgs
open Go.RowKit Go.Proofs.YtkcgghgkmgbphaaW.PrintWords Go.Proofs.YtkcgghgkmgbphaaW.PrintLast Go.Proofs.YtkcgghgkmgbphaaW.PrintMore
attribute [local go_sem] max2_int min2_int max_two min_two max_three min_three max_four min_four   -- for this text's walks alone
set_option linter.unusedVariables false
set_option linter.unusedSimpArgs false
set_option maxHeartbeats 8000000
set_option maxRecDepth 100000

attribute [local go_sem] cell_setCell_m
/-! ### spec_PutMsg: function 95 -/
def spec_PutMsg.j0 : Nat → ByteArray → List Int → Bool → Option (List Int)
 | 0, _, _, _ => none
 | k + 1, x0, x5, x16 => if x16 = true then (some (([] : List Int))) else ((spec_PutInt.f k 1).bind fun t304 => ((spec_PutTlv.f k (([] : List Int)) 2 t304).bind fun t307 => (if x0.size ≤ 140737488355328 then ((spec_PutTlv.f k t307 4 ((bytesOf x0 : List Int))).bind fun t313 => (if t313.length + x5.length < 140737488355328 then ((some (t313 ++ x5 : List Int)).bind fun y316 => (if (y316.length : Int) > 250 then (some (([] : List Int))) else ((spec_PutTlv.f k (([] : List Int)) 48 y316).bind fun t325 => (some t325)))) else (none))) else (none))))
def spec_PutMsg.f (k : Nat) (a0 : ByteArray) (a1_0 : Int) (a1_1 : Int) (a1_2 : Int) (a1_3 : Int) (l1_4 : List (S116)) : Option (List Int) := (spec_PutPdu.f k a1_0 a1_1 a1_2 a1_3 l1_4).bind fun t295 => (if (t295.length : Int) = 0 then (spec_PutMsg.j0 k a0 t295 true) else (spec_PutMsg.j0 k a0 t295 (decide ((a0.size : Int) > 20))))
theorem spec_PutMsg.mono_l : ∀ k, (∀ y0 y1 y2, LeO (spec_PutMsg.j0 k y0 y1 y2) (spec_PutMsg.j0 (k + 1) y0 y1 y2))
 | 0 => fun _ _ _ r h => by simp [spec_PutMsg.j0] at h
 | k + 1 => by
  have ih0 := spec_PutMsg.mono_l k
  ·intro y0 y1 y2
   unfold spec_PutMsg.j0
   have m0_ := @spec_PutInt.mono
   have m1_ := @spec_PutPdu.mono
   have m2_ := @spec_PutTlv.mono
   exact zR
theorem spec_PutMsg.mono : ∀ a0 a1 a2 a3 a4 a5 k, LeO (spec_PutMsg.f k a0 a1 a2 a3 a4 a5) (spec_PutMsg.f (k + 1) a0 a1 a2 a3 a4 a5) := by
 intro a0 a1 a2 a3 a4 a5 k
 have ih0 := spec_PutMsg.mono_l k
 unfold spec_PutMsg.f
 have m0_ := @spec_PutInt.mono
 have m1_ := @spec_PutPdu.mono
 have m2_ := @spec_PutTlv.mono
 exact zR
theorem spec_PutMsg.calls (k : Nat) (a0 : ByteArray) (a1_0 : Int) (a1_1 : Int) (a1_2 : Int) (a1_3 : Int) (A1_4 : Option Addr) (c1_4 : Nat) (l1_4 : List (S116)) (r : List Int) (w : World) (hr1_4 : Kd.C k116 w A1_4 l1_4.length l1_4) (hc1_4 : l1_4.length ≤ c1_4) (h : spec_PutMsg.f k a0 a1_0 a1_1 a1_2 a1_3 l1_4 = some r) :
  Calls Try.prog 95 #[.string a0, .agg #[.int .i64 a1_0, .int .i64 a1_1, .int .i64 a1_2, .int .i64 a1_3, .slice A1_4 l1_4.length c1_4]] w fun e w' => ∃ v0_ : Value, e = .returned (v0_) ∧ Kd.R (Kd.int .u8) 5 w' w.heap.size (fun _ => True) v0_ r ∧ Below w.heap.size w w' := by
 have hu26 := Try.underlying26
 have HR1_4 := zA hr1_4
 have HC1_4 := zA hc1_4
 clear hr1_4 hc1_4
 have HB := zA (Below.refl w.heap.size w)
 unfold spec_PutMsg.f at h
 have H := zA h
 clear h
 go_enter Try.func95, Try.ntmps95
 go_upto_region 0 with fail
 go_upto_region 1 with (first | ((with_reducible refine gate_dst (N := 3) rfl ?_); (try (refine gate_guard zq94 ?_; dsimp only)); refine box_event ?hg (N := 3) ?hd (cs := #[.int .i64 a1_0, .int .i64 a1_1, .int .i64 a1_2, .int .i64 a1_3, .slice A1_4 l1_4.length c1_4]) (t := 26) ?hr ?_; (case hd => rfl); (case hg => rfl); (case hr => exact zgs); intro gb294 hg w5 hbox hb; have BK294 := zA (hbox); have GW294 := zA ((zq5 : w.heap.size ≤ gb294)); have GE294 := zA ((zq5 : w.heap.size ≤ gb294)); replace HB := zA (below_step zq0 hb); clear hb hbox hg))
 (try simp only [zvs])
 replace H := zB H; obtain ⟨t295, A6, H⟩ := H
 try dsimp only at H
 have hz8 := zc5 BK294.out
 go_upto_region 2 with (first | ((with_reducible refine zg26 rfl ?_); refine zl26 (some 8) #[.agg #[.int .i64 a1_0, .int .i64 a1_1, .int .i64 a1_2, .int .i64 a1_3, .slice A1_4 l1_4.length c1_4]] ?_; (with_reducible refine (spec_PutPdu.calls k a1_0 a1_1 a1_2 a1_3 _ _ l1_4 t295 _ ?side1 ?side2 A6.out).mono ?_); (case side1 => exact zq200); (case side2 => exact HC1_4.out); rintro e w9 ⟨v296, rfl, ho0, hb⟩; refine ⟨_, rfl, ?_⟩; have HO297 := zA (Kd.R_lower ho0 (below_size zq0)); replace BK294 := zA (zbb BK294.out hb); replace HB := zA (below_step zq0 hb); clear hb ho0))
 (try simp only [zvs])
 go_upto_region 2 with fail
 go_cut [16] (fun v16 wc => ∃ (kq : Nat) (x16_9 : Bool), v16 = .bool x16_9 ∧ Aside0 (spec_PutMsg.j0 kq a0 t295 x16_9 = some r) ∧ Aside0 (kq ≤ k) ∧ Aside0 (Kd.R (Kd.int .u8) 5 wc w.heap.size (fun _ => True) v296 t295) ∧ Aside0 (wc.heap[gb294]? = some (.cells #[.int .i64 a1_0, .int .i64 a1_1, .int .i64 a1_2, .int .i64 a1_3, (.slice A1_4 l1_4.length c1_4)] 26 (0, 0))) ∧ Aside0 (Below w.heap.size w wc))
 case first =>
  replace H := zP H; rcases H with ⟨c11, H⟩ | ⟨c11, H⟩
  ·have c11b0 : ((t295.length : Int) == 0) = true := beq_iff_eq.mpr c11
   have c11b1 : ((t295.length : Int) != 0) = false := bne_eq_false_iff_eq.mpr c11
   clear c11
   (first | rw [c11b0] | (simp only [i64_w, i32_w]; rw [c11b0]) | skip)
   have H' := H; clear H
   obtain ⟨Ao12, co12, eo12⟩ := Kd.R_slice HO297.out
   subst eo12
   go_wp2
   go_meet
   case rel => exact ⟨_, (true), zq15, H', ⟨zq120⟩, ⟨(zrk HO297.out)⟩, ⟨(zbk BK294.out)⟩, ⟨zq0⟩⟩
  have c11b0 : ((t295.length : Int) == 0) = false := beq_eq_false_iff_ne.mpr c11
  have c11b1 : ((t295.length : Int) != 0) = true := bne_iff_ne.mpr c11
  have c11b2 : ¬ (t295 = []) := fun h_ => c11 (by rw [h_]; rfl)
  (first | rw [c11b0] | (simp only [i64_w, i32_w]; rw [c11b0]) | skip)
  have H' := H; clear H
  obtain ⟨Ao13, co13, eo13⟩ := Kd.R_slice HO297.out
  subst eo13
  go_wp2
  go_meet
  case rel => exact ⟨_, (decide ((a0.size : Int) > 20)), zq15, H', ⟨zq120⟩, ⟨(zrk HO297.out)⟩, ⟨(zbk BK294.out)⟩, ⟨zq0⟩⟩
 case rest =>
  try clear c1
  try clear c2
  try clear p2
  try clear c9
  try clear c11
  try clear c11b0
  try clear c11b1
  try clear c11b2
  try clear hz8
  obtain ⟨kq, x16_9, rfl, HA, HJ9, HO_5, BK294, HB⟩ := hcut
  cases kq with
  | zero => exact absurd HA.out (by simp [spec_PutMsg.j0])
  | succ kj9 =>
   have H := HA
   clear HA
   simp only [spec_PutMsg.j0] at H
   replace H := zE H; rcases H with ⟨rfl, H⟩ | ⟨rfl, H⟩
   ·go_upto_region 3 with fail
    obtain ⟨y298, hy298⟩ : ∃ y_ : List Int, y_ = (([] : List Int)) := ⟨_, rfl⟩
    rw [← hy298] at H
    have Ny298 := zA hy298
    clear hy298
    obtain rfl := zi H
    go_wp2_with (first | ((with_reducible refine gate_dst (N := 17) rfl ?_); (try (refine gate_guard zq94 ?_; dsimp only)); refine Kd.R_lit (Kd.int .u8) _ 5 ?hg (N := 17) ?hd (xs := ([] : List Int)) (inner := []) (ok := fun _ => True) (okp := fun _ => True) ?hr ?hp (fun _ hk => hk) trivial (Below.refl _ _) (Nat.le_refl _) zq219 ?_; (case hd => rfl); (case hg => rfl); (case hr => exact zgs); (case hp => exact (Reps.none _ _)); intro v299 w16 ho17 hb hg_ hnew_; clear hg_ hnew_; (first | rw [← Ny298.out] at ho17 | (simp only [Int.reduceToNat] at ho17; rw [← Ny298.out] at ho17)); have HO300 := zA (Kd.R_lower (Kd.R_new' ho17 (Kd.R_lt zq11)) (below_size zq0)); replace HO_5 := zA (Kd.R_elder' zq11 (Kd.R_base ho17) hb); replace BK294 := zA (zbb BK294.out hb); replace HB := zA (below_step zq0 hb); clear hb ho17))
    go_ret
    exact ⟨_, zq1, (by (with_reducible repeat (first | apply Kd.R_alloc | apply Kd.R_drewN | apply Kd.R_drew)); exact Kd.R_mono HO300.out (fun _ hk => trivial)), zq0⟩
   go_upto_region 4 with fail
   obtain ⟨y301, hy301⟩ : ∃ y_ : List Int, y_ = (([] : List Int)) := ⟨_, rfl⟩
   replace H : Aside0 (((spec_PutInt.f kj9 1).bind fun t304 => ((spec_PutTlv.f kj9 y301 2 t304).bind fun t307 => (if a0.size ≤ 140737488355328 then ((spec_PutTlv.f kj9 t307 4 ((bytesOf a0 : List Int))).bind fun t313 => (if t313.length + t295.length < 140737488355328 then ((some (t313 ++ t295 : List Int)).bind fun y316 => (if (y316.length : Int) > 250 then (some (([] : List Int))) else ((spec_PutTlv.f kj9 (([] : List Int)) 48 y316).bind fun t325 => (some t325)))) else (none))) else (none)))) = some r) := by first | (rw [hy301]; with_reducible exact H) | (have H2_ := (Option.bind_some _ _).symm.trans H; rw [hy301]; with_reducible exact H2_) | (have H2_ := (Option.bind_some _ _).symm.trans H; with_reducible exact H2_) | with_reducible exact H | (rw [hy301]; exact H) | exact H
   have Ny301 := zA hy301
   clear hy301
   replace H := zB H; obtain ⟨t304, A19, H⟩ := H
   try dsimp only at H
   replace H := zB H; obtain ⟨t307, A20, H⟩ := H
   try dsimp only at H
   replace H := zN H; obtain ⟨c21, H⟩ := H
   have c21b0 := eq_true c21
   have c21b1 : decide (a0.size ≤ 140737488355328) = true := decide_eq_true c21
   clear c21
   obtain ⟨y310, hy310⟩ : ∃ y_ : List Int, y_ = ((bytesOf a0 : List Int)) := ⟨_, rfl⟩
   rw [← hy310] at H
   have Ny310 := zA hy310
   clear hy310
   replace H := zB H; obtain ⟨t313, A22, H⟩ := H
   try dsimp only at H
   replace H := zN H; obtain ⟨c23, H⟩ := H
   have LMc23 := zA c23
   clear c23
   replace H := zS (t313 ++ t295) H; obtain ⟨y316, Ny316, H⟩ := H
   go_upto_region 5 with (first | ((with_reducible refine gate_dst (N := 18) rfl ?_); (try (refine gate_guard zq94 ?_; dsimp only)); refine Kd.R_lit (Kd.int .u8) _ 5 ?hg (N := 18) ?hd (xs := ([] : List Int)) (inner := []) (ok := fun _ => True) (okp := fun _ => True) ?hr ?hp (fun _ hk => hk) trivial (Below.refl _ _) (Nat.le_refl _) zq219 ?_; (case hd => rfl); (case hg => rfl); (case hr => exact zgs); (case hp => exact (Reps.none _ _)); intro v302 w25 ho26 hb hg_ hnew_; clear hg_ hnew_; (first | rw [← Ny301.out] at ho26 | (simp only [Int.reduceToNat] at ho26; rw [← Ny301.out] at ho26)); have HO303 := zA (Kd.R_lower (Kd.R_new' ho26 (Kd.R_lt zq11)) (below_size zq0)); replace HO_5 := zA (Kd.R_elder' zq11 (Kd.R_base ho26) hb); replace BK294 := zA (zbb BK294.out hb); replace HB := zA (below_step zq0 hb); clear hb ho26) | ((with_reducible refine zg152 rfl ?_); refine zl152 (some 19) #[.int .i64 1] ?_; (with_reducible refine (spec_PutInt.calls kj9 1 t304 _ A19.out).mono ?_); rintro e w27 ⟨v305, rfl, ho0, hb⟩; refine ⟨_, rfl, ?_⟩; have HO306 := zA (Kd.R_lower (Kd.R_new' (Kd.R_new' ho0 (Kd.R_lt zq11)) (Kd.R_lt zq78)) (below_size zq0)); replace HO_5 := zA (Kd.R_elder' zq11 (Kd.R_base ho0) hb); replace HO303 := zA (Kd.R_elder' zq78 (Kd.R_base ho0) hb); replace BK294 := zA (zbb BK294.out hb); replace HB := zA (below_step zq0 hb); clear hb ho0; obtain ⟨Ao28, co28, eo28⟩ := Kd.R_slice HO303.out; subst eo28; obtain ⟨Ao29, co29, eo29⟩ := Kd.R_slice HO306.out; subst eo29) | ((with_reducible refine zg126 rfl ?_); refine zl126 (some 20) #[.slice Ao28 y301.length co28, .int .i64 2, .slice Ao29 t304.length co29] ?_; (with_reducible refine (spec_PutTlv.calls kj9 _ _ y301 2 _ _ t304 t307 _ ?side1 ?side2 ?side3 ?side4 A20.out).mono ?_); (case side1 => exact (zck (Kd.R_reads' HO303.out).2.2)); (case side2 => exact (Kd.R_reads' HO303.out).2.1); (case side3 => exact (zck (Kd.R_reads' HO306.out).2.2)); (case side4 => exact (Kd.R_reads' HO306.out).2.1); rintro e w30 ⟨v308, rfl, ho0, hb⟩; refine ⟨_, rfl, ?_⟩; have HO309 := zA (Kd.R_lower (Kd.R_new' (Kd.R_new' (Kd.R_new' ho0 (Kd.R_lt zq11)) (Kd.R_lt zq78)) (Kd.R_lt zq88)) (below_size zq0)); replace HO_5 := zA (Kd.R_elder' zq11 (Kd.R_base ho0) hb); replace HO303 := zA (Kd.R_elder' zq78 (Kd.R_base ho0) hb); replace HO306 := zA (Kd.R_elder' zq88 (Kd.R_base ho0) hb); replace BK294 := zA (zbb BK294.out hb); replace HB := zA (below_step zq0 hb); clear hb ho0) | ((with_reducible refine gate_dst (N := 22) rfl ?_); (try (refine gate_guard zq94 ?_; dsimp only)); refine V_conv _ ?hg (N := 22) ?hd ?hx 9 22 5 ?ho Try.underlying9 Try.underlying22 Try.underlying5 a0 ?hr (ok := fun k_ => w30.heap.size ≤ k_) (Nat.le_refl _) ?hm (Below.refl _ _) (Nat.le_refl _) ?_; (case hd => rfl); (case hg => rfl); (case ho => rfl); (case hr => first | rfl | (go_simp; done) | (go_simp; rfl)); (case hm => exact of_decide_eq_true zq13); intro v311 w31 ho32 hb hg_ hnew_; clear hg_ hnew_; (first | rw [← Ny310.out] at ho32 | (simp only [Int.reduceToNat] at ho32; rw [← Ny310.out] at ho32)); have HO312 := zA (Kd.V_lower (Kd.V_mono (ok' := fun k_ => some k_ ≠ (v296 : Value).ownBlock ∧ some k_ ≠ (.slice Ao28 y301.length co28 : Value).ownBlock ∧ some k_ ≠ (.slice Ao29 t304.length co29 : Value).ownBlock ∧ some k_ ≠ (v308 : Value).ownBlock ∧ k_ ≠ gb294) ho32 (fun k_ hk_ => ⟨(Kd.fresh' (Kd.R_lt zq11) k_ hk_), (Kd.fresh' (Kd.R_lt zq78) k_ hk_), (Kd.fresh' (Kd.R_lt zq88) k_ hk_), (Kd.fresh' (Kd.R_lt (zrk HO309.out)) k_ hk_), (Kd.freshB (g := gb294) (o := .cells #[.int .i64 a1_0, .int .i64 a1_1, .int .i64 a1_2, .int .i64 a1_3, .slice A1_4 l1_4.length c1_4] 26 (0, 0)) (zbk BK294.out) k_ hk_)⟩)) (below_size zq0)); replace HO_5 := zA (Kd.R_below zq11 hb); replace HO303 := zA (Kd.R_below zq78 hb); replace HO306 := zA (Kd.R_below zq88 hb); replace HO309 := zA (Kd.R_below (zrk HO309.out) hb); replace BK294 := zA (zbb BK294.out hb); replace HB := zA (below_step zq0 hb); clear hb ho32; obtain ⟨Ao33, co33, eo33⟩ := Kd.R_slice HO309.out; subst eo33; obtain ⟨Ao34, co34, eo34⟩ := Kd.V_slice HO312.out; subst eo34) | ((with_reducible refine zg126 rfl ?_); refine zl126 (some 23) #[.slice Ao33 t307.length co33, .int .i64 4, .slice Ao34 y310.length co34] ?_; (with_reducible refine (spec_PutTlv.calls kj9 _ _ t307 4 _ _ y310 t313 _ ?side1 ?side2 ?side3 ?side4 A22.out).mono ?_); (case side1 => exact (zck (Kd.R_reads' HO309.out).2.2)); (case side2 => exact (Kd.R_reads' HO309.out).2.1); (case side3 => exact (by repeat (first | exact (Kd.V_reads' HO312.out).2.2 | (with_reducible refine Kd.C_alloc ?_ _) | (with_reducible refine Kd.C_drewN ?_ _) | (with_reducible refine Kd.C_drew ?_)))); (case side4 => exact (Kd.V_reads' HO312.out).2.1); rintro e w35 ⟨v314, rfl, ho0, hb⟩; refine ⟨_, rfl, ?_⟩; replace HO312 := zA (Kd.V_elder' zq184 (Kd.R_base ho0) hb); have HO315 := zA (Kd.R_lower (Kd.R_new' (Kd.R_new' (Kd.R_new' (Kd.R_new' ho0 (Kd.R_lt zq11)) (Kd.R_lt zq78)) (Kd.R_lt zq88)) (Kd.R_lt (zrk HO309.out))) (below_size zq0)); replace HO_5 := zA (Kd.R_elder' zq11 (Kd.R_base ho0) hb); replace HO303 := zA (Kd.R_elder' zq78 (Kd.R_base ho0) hb); replace HO306 := zA (Kd.R_elder' zq88 (Kd.R_base ho0) hb); replace HO309 := zA (Kd.R_elder' (zrk HO309.out) (Kd.R_base ho0) hb); replace BK294 := zA (zbb BK294.out hb); replace HB := zA (below_step zq0 hb); clear hb ho0; obtain ⟨Ao37, co37, eo37⟩ := Kd.R_slice HO_5.out; subst eo37) | ((with_reducible refine gate_builtin (b := .append) (xs := #[.tmp 23, .tmp 24]) rfl ?_); (try (refine gate_guard zq94 ?_; dsimp only)); at_builtin; refine Kd.R_append_rows (Kd.int .u8) (w0 := w) w.heap.size rfl (.tmp 23) (.tmp 24) 22 5 (.int .u8 0) 1 rfl Try.underlying22 info5 rfl zq52 zq183 v314 t313 t295 _ _ _ (fun k_ => some k_ ≠ (.slice Ao37 t295.length co37 : Value).ownBlock ∧ some k_ ≠ (.slice Ao28 y301.length co28 : Value).ownBlock ∧ some k_ ≠ (.slice Ao29 t304.length co29 : Value).ownBlock ∧ some k_ ≠ (.slice Ao33 t307.length co33 : Value).ownBlock) (fun _ => False) rfl rfl ?aO ?aR (fun _ _ h => h) (fun _ h => h.elim) ?aF ?aB ?aS ?aL ?_; (case aR => exact zq35); (case aB => exact zq0); (case aF => exact (fun k_ hk => ⟨Kd.fresh' (Kd.R_lt zq11) k_ hk, Kd.fresh' (Kd.R_lt zq78) k_ hk, Kd.fresh' (Kd.R_lt zq88) k_ hk, Kd.fresh' (Kd.R_lt (zrk HO309.out)) k_ hk⟩)); (case aO => exact (by (with_reducible repeat (first | apply Kd.R_alloc | apply Kd.R_drewN | apply Kd.R_drew)); exact Kd.R_mono HO315.out (fun _ hk => ⟨hk.1.1.1.2, ⟨hk.1.1.2, ⟨hk.1.2, hk.2⟩⟩⟩))); (case aS => exact (below_size zq0)); (case aL => have := LMc23.out; omega); intro v317 w36 ho hb hg hat; rw [← Ny316.out] at ho; replace HO_5 := zA (Kd.R_after (ok := (fun k_ => some k_ ≠ (.slice Ao28 y301.length co28 : Value).ownBlock ∧ some k_ ≠ (.slice Ao29 t304.length co29 : Value).ownBlock ∧ some k_ ≠ (.slice Ao33 t307.length co33 : Value).ownBlock)) (by (with_reducible repeat (first | apply Kd.R_alloc | apply Kd.R_drewN | apply Kd.R_drew)); exact Kd.R_mono HO_5.out (fun _ hk => ⟨⟨hk.1.1.1.2, ⟨hk.1.1.2, hk.1.2⟩⟩, hk.2⟩)) hg hat); replace BK294 := zA (blk_grown (g := gb294) (o := .cells #[.int .i64 a1_0, .int .i64 a1_1, .int .i64 a1_2, .int .i64 a1_3, .slice A1_4 l1_4.length c1_4] 26 (0, 0)) (zbk BK294.out) hg (Kd.R_ne HO315.out BK294.out zq52)); replace HO303 := zA (Kd.R_after (ok := (fun k_ => some k_ ≠ (.slice Ao37 t295.length co37 : Value).ownBlock ∧ some k_ ≠ (.slice Ao29 t304.length co29 : Value).ownBlock ∧ some k_ ≠ (.slice Ao33 t307.length co33 : Value).ownBlock)) (by (with_reducible repeat (first | apply Kd.R_alloc | apply Kd.R_drewN | apply Kd.R_drew)); exact Kd.R_mono HO303.out (fun _ hk => ⟨⟨hk.1.1.1.2, ⟨hk.1.1.2, hk.1.2⟩⟩, hk.2⟩)) hg hat); replace HO306 := zA (Kd.R_after (ok := (fun k_ => some k_ ≠ (.slice Ao37 t295.length co37 : Value).ownBlock ∧ some k_ ≠ (.slice Ao28 y301.length co28 : Value).ownBlock ∧ some k_ ≠ (.slice Ao33 t307.length co33 : Value).ownBlock)) (by (with_reducible repeat (first | apply Kd.R_alloc | apply Kd.R_drewN | apply Kd.R_drew)); exact Kd.R_mono HO306.out (fun _ hk => ⟨⟨hk.1.1.1.2, ⟨hk.1.1.2, hk.1.2⟩⟩, hk.2⟩)) hg hat); replace HO309 := zA (Kd.R_after (ok := (fun k_ => some k_ ≠ (.slice Ao37 t295.length co37 : Value).ownBlock ∧ some k_ ≠ (.slice Ao28 y301.length co28 : Value).ownBlock ∧ some k_ ≠ (.slice Ao29 t304.length co29 : Value).ownBlock)) (by (with_reducible repeat (first | apply Kd.R_alloc | apply Kd.R_drewN | apply Kd.R_drew)); exact Kd.R_mono HO309.out (fun _ hk => ⟨⟨hk.1.1.1.2, ⟨hk.1.1.2, hk.1.2⟩⟩, hk.2⟩)) hg hat); replace HO312 := zA (Kd.V_afterv (ok := (fun k_ => some k_ ≠ (.slice Ao37 t295.length co37 : Value).ownBlock ∧ some k_ ≠ (.slice Ao28 y301.length co28 : Value).ownBlock ∧ some k_ ≠ (.slice Ao29 t304.length co29 : Value).ownBlock ∧ some k_ ≠ (.slice Ao33 t307.length co33 : Value).ownBlock ∧ k_ ≠ gb294)) zq184 hg hat); replace HB := zA (hb); have HO318 := zA (ho); clear HO315; clear ho hb hg hat))
   (try simp only [zvs])
   (try (rw [drewN_self w36]; generalize hq_ : World.drewN w36 _ = w36; replace HO_5 := zA (Kd.R_at hq_ HO_5.out); replace HO303 := zA (Kd.R_at hq_ HO303.out); replace HO306 := zA (Kd.R_at hq_ HO306.out); replace HO309 := zA (Kd.R_at hq_ HO309.out); replace HO312 := zA (Kd.V_at hq_ HO312.out); replace HO318 := zA (Kd.R_at hq_ HO318.out); replace BK294 := zA (blk_at hq_ BK294.out); replace HB := zA (below_at hq_ HB.out); clear hq_))
   replace H := zP H; rcases H with ⟨c38, H⟩ | ⟨c38, H⟩
   ·have c38b0 : decide (250 < (y316.length : Int)) = true := decide_eq_true c38
    have c38b1 : decide (250 < y316.length) = true := decide_eq_true zq183
    clear c38
    obtain ⟨Ao40, co40, eo40⟩ := Kd.R_slice HO318.out
    subst eo40
    go_upto_region 6 with fail
    obtain ⟨y319, hy319⟩ : ∃ y_ : List Int, y_ = (([] : List Int)) := ⟨_, rfl⟩
    rw [← hy319] at H
    have Ny319 := zA hy319
    clear hy319
    obtain rfl := zi H
    go_wp2_with (first | ((with_reducible refine gate_dst (N := 29) rfl ?_); (try (refine gate_guard zq94 ?_; dsimp only)); refine Kd.R_lit (Kd.int .u8) _ 5 ?hg (N := 29) ?hd (xs := ([] : List Int)) (inner := []) (ok := fun _ => True) (okp := fun _ => True) ?hr ?hp (fun _ hk => hk) trivial (Below.refl _ _) (Nat.le_refl _) zq219 ?_; (case hd => rfl); (case hg => rfl); (case hr => exact zgs); (case hp => exact (Reps.none _ _)); intro v320 w41 ho42 hb hg_ hnew_; clear hg_ hnew_; (first | rw [← Ny319.out] at ho42 | (simp only [Int.reduceToNat] at ho42; rw [← Ny319.out] at ho42)); replace HO312 := zA (Kd.V_elder' zq184 (Kd.R_base ho42) hb); have HO321 := zA (Kd.R_lower (Kd.R_new' (Kd.R_new' (Kd.R_new' (Kd.R_new' (Kd.R_new' ho42 (Kd.R_lt zq11)) (Kd.R_lt zq78)) (Kd.R_lt zq88)) (Kd.R_lt (zrk HO309.out))) (Kd.R_lt (zrk HO318.out))) (below_size zq0)); replace HO_5 := zA (Kd.R_elder' zq11 (Kd.R_base ho42) hb); replace HO303 := zA (Kd.R_elder' zq78 (Kd.R_base ho42) hb); replace HO306 := zA (Kd.R_elder' zq88 (Kd.R_base ho42) hb); replace HO309 := zA (Kd.R_elder' (zrk HO309.out) (Kd.R_base ho42) hb); replace HO318 := zA (Kd.R_elder' (zrk HO318.out) (Kd.R_base ho42) hb); replace BK294 := zA (zbb BK294.out hb); replace HB := zA (below_step zq0 hb); clear hb ho42))
    go_ret
    exact ⟨_, zq1, (by (with_reducible repeat (first | apply Kd.R_alloc | apply Kd.R_drewN | apply Kd.R_drew)); exact Kd.R_mono HO321.out (fun _ hk => trivial)), zq0⟩
   have c38b0 : decide (250 < (y316.length : Int)) = false := decide_eq_false c38
   have c38b1 : decide (250 < y316.length) = false := decide_eq_false zq183
   clear c38
   obtain ⟨Ao44, co44, eo44⟩ := Kd.R_slice HO318.out
   subst eo44
   go_upto_region 7 with fail
   obtain ⟨y322, hy322⟩ : ∃ y_ : List Int, y_ = (([] : List Int)) := ⟨_, rfl⟩
   rw [← hy322] at H
   have Ny322 := zA hy322
   clear hy322
   replace H := zB H; obtain ⟨t325, A45, H⟩ := H
   try dsimp only at H
   obtain rfl := zi H
   go_wp2_with (first | ((with_reducible refine gate_dst (N := 30) rfl ?_); (try (refine gate_guard zq94 ?_; dsimp only)); refine Kd.R_lit (Kd.int .u8) _ 5 ?hg (N := 30) ?hd (xs := ([] : List Int)) (inner := []) (ok := fun _ => True) (okp := fun _ => True) ?hr ?hp (fun _ hk => hk) trivial (Below.refl _ _) (Nat.le_refl _) zq219 ?_; (case hd => rfl); (case hg => rfl); (case hr => exact zgs); (case hp => exact (Reps.none _ _)); intro v323 w46 ho47 hb hg_ hnew_; clear hg_ hnew_; (first | rw [← Ny322.out] at ho47 | (simp only [Int.reduceToNat] at ho47; rw [← Ny322.out] at ho47)); replace HO312 := zA (Kd.V_elder' zq184 (Kd.R_base ho47) hb); have HO324 := zA (Kd.R_lower (Kd.R_new' (Kd.R_new' (Kd.R_new' (Kd.R_new' (Kd.R_new' ho47 (Kd.R_lt zq11)) (Kd.R_lt zq78)) (Kd.R_lt zq88)) (Kd.R_lt (zrk HO309.out))) (Kd.R_lt (zrk HO318.out))) (below_size zq0)); replace HO_5 := zA (Kd.R_elder' zq11 (Kd.R_base ho47) hb); replace HO303 := zA (Kd.R_elder' zq78 (Kd.R_base ho47) hb); replace HO306 := zA (Kd.R_elder' zq88 (Kd.R_base ho47) hb); replace HO309 := zA (Kd.R_elder' (zrk HO309.out) (Kd.R_base ho47) hb); replace HO318 := zA (Kd.R_elder' (zrk HO318.out) (Kd.R_base ho47) hb); replace BK294 := zA (zbb BK294.out hb); replace HB := zA (below_step zq0 hb); clear hb ho47; obtain ⟨Ao48, co48, eo48⟩ := Kd.R_slice HO324.out; subst eo48) | ((with_reducible refine zg126 rfl ?_); refine zl126 (some 32) #[.slice Ao48 y322.length co48, .int .i64 48, .slice Ao44 y316.length co44] ?_; (with_reducible refine (spec_PutTlv.calls kj9 _ _ y322 48 _ _ y316 t325 _ ?side1 ?side2 ?side3 ?side4 A45.out).mono ?_); (case side1 => exact (zck (Kd.R_reads' HO324.out).2.2)); (case side2 => exact (Kd.R_reads' HO324.out).2.1); (case side3 => exact (zck (Kd.R_reads' HO318.out).2.2)); (case side4 => exact (Kd.R_reads' HO318.out).2.1); rintro e w49 ⟨v326, rfl, ho0, hb⟩; refine ⟨_, rfl, ?_⟩; replace HO312 := zA (Kd.V_elder' zq184 (Kd.R_base ho0) hb); have HO327 := zA (Kd.R_lower (Kd.R_new' (Kd.R_new' (Kd.R_new' (Kd.R_new' (Kd.R_new' (Kd.R_new' ho0 (Kd.R_lt zq11)) (Kd.R_lt zq78)) (Kd.R_lt zq88)) (Kd.R_lt (zrk HO309.out))) (Kd.R_lt (zrk HO318.out))) (Kd.R_lt (zrk HO324.out))) (below_size zq0)); replace HO_5 := zA (Kd.R_elder' zq11 (Kd.R_base ho0) hb); replace HO303 := zA (Kd.R_elder' zq78 (Kd.R_base ho0) hb); replace HO306 := zA (Kd.R_elder' zq88 (Kd.R_base ho0) hb); replace HO309 := zA (Kd.R_elder' (zrk HO309.out) (Kd.R_base ho0) hb); replace HO318 := zA (Kd.R_elder' (zrk HO318.out) (Kd.R_base ho0) hb); replace HO324 := zA (Kd.R_elder' (zrk HO324.out) (Kd.R_base ho0) hb); replace BK294 := zA (zbb BK294.out hb); replace HB := zA (below_step zq0 hb); clear hb ho0))
   go_ret
   exact ⟨_, zq1, (by (with_reducible repeat (first | apply Kd.R_alloc | apply Kd.R_drewN | apply Kd.R_drew)); exact Kd.R_mono HO327.out (fun _ hk => trivial)), zq0⟩

/-! ### impl_in: function 122 -/
def impl_in.f (a0 : Int) (a1 : Int) (a2 : Int) : Option (Bool) := if a0 ≥ a1 then (some (decide (a0 ≤ a2))) else (some false)
theorem impl_in.calls (a0 : Int) (a1 : Int) (a2 : Int) (r : Bool) (w : World) (h : impl_in.f a0 a1 a2 = some r) :
  Calls Try.prog 122 #[.int .i64 a0, .int .i64 a1, .int .i64 a2] w fun e w' => e = .returned (.bool r) ∧ Drawn0 w w' := by
 unfold impl_in.f at h
 have H := zA h
 clear h
 go_enter Try.func122, Try.ntmps122
 go_upto_region 0 with fail
 go_upto_region 1 with fail
 replace H := zPd H; rcases H with ⟨c6b0, H⟩ | ⟨c6b0, H⟩
 ·obtain rfl := zi H
  go_wp2
  go_ret
  exact ⟨zq15, zq65⟩
 obtain rfl := zi H
 go_wp2
 go_ret
 exact ⟨zq15, zq65⟩

/-! ### impl_OidOk: function 123 -/
def impl_OidOk.l0 : Nat → List Int → List Int → Int → Int → Option (Bool)
 | 0, _, _, _, _ => none
 | k + 1, x0, x5, x6, x7 => if x7 < x6 then (if 0 ≤ x7 then (if x7 < (x5.length : Int) then ((impl_in.f (rd x5 x7) 0 100000).bind fun t329 => (if t329 = true then (impl_OidOk.l0 k x0 x5 x6 (wrap64 (x7 + 1))) else (some false))) else (none)) else (none)) else ((impl_in.f (x0.length : Int) 1 10).bind fun t330 => (some t330))
def impl_OidOk.f (k : Nat) (l0 : List Int) : Option (Bool) := impl_OidOk.l0 k l0 l0 (l0.length : Int) 0
theorem impl_OidOk.mono_l : ∀ k, (∀ y0 y1 y2 y3, LeO (impl_OidOk.l0 k y0 y1 y2 y3) (impl_OidOk.l0 (k + 1) y0 y1 y2 y3))
 | 0 => fun _ _ _ _ r h => by simp [impl_OidOk.l0] at h
 | k + 1 => by
  have ih0 := impl_OidOk.mono_l k
  ·intro y0 y1 y2 y3
   unfold impl_OidOk.l0
   exact zR
theorem impl_OidOk.mono : ∀ a0 k, LeO (impl_OidOk.f k a0) (impl_OidOk.f (k + 1) a0) := by
 intro a0 k
 have ih0 := impl_OidOk.mono_l k
 unfold impl_OidOk.f
 exact zR
theorem impl_OidOk.calls (k : Nat) (A0 : Option Addr) (c0 : Nat) (l0 : List Int) (r : Bool) (w : World) (hr0 : Kd.C (Kd.int .i64) w A0 l0.length l0) (hc0 : l0.length ≤ c0) (h : impl_OidOk.f k l0 = some r) :
  Calls Try.prog 123 #[.slice A0 l0.length c0] w fun e w' => e = .returned (.bool r) ∧ Drawn0 w w' := by
 have HR0 := zA hr0
 have HC0 := zA hc0
 clear hr0 hc0
 unfold impl_OidOk.f at h
 have H := zA h
 clear h
 go_enter Try.func123, Try.ntmps123
 go_upto_region 0 with fail
 go_upto_region 1 with fail
 have H' := H; clear H
 go_wp2
 go_loopg [7] k (fun kq v7 w' => ∃ (x7_1 : Int), v7 = .int .i64 x7_1 ∧ Aside0 (impl_OidOk.l0 kq l0 l0 (l0.length : Int) x7_1 = some r) ∧ Aside0 (kq ≤ k) ∧ Drawn0 w w')
 case atStart => exact ⟨(0), zq15, H', ⟨Nat.le_refl _⟩, zq65⟩
 case round =>
  clear H'
  try clear c1
  try clear p2
  obtain ⟨x7_1, rfl, HA, HK1, ⟨m1, rfl⟩⟩ := hrel
  cases gk with
  | zero => exact absurd HA.out (by simp [impl_OidOk.l0])
  | succ k1 =>
   have H := HA
   clear HA
   simp only [impl_OidOk.l0] at H
   go_upto_region 2 with fail
   replace H := zPd H; rcases H with ⟨c5b0, H⟩ | ⟨c5b0, H⟩
   ·go_upto_region 3 with fail
    replace H := zNd H; obtain ⟨c7b0, H⟩ := H
    replace H := zNd H; obtain ⟨c8b0, H⟩ := H
    have p328 : 0 ≤ (x7_1 : Int) := of_decide_eq_true zq13
    have q328 : x7_1 < (l0.length : Int) := of_decide_eq_true zq13
    obtain ⟨ad328, e328, hx328_0⟩ := Kd.at_int HR0.out x7_1 p328 q328
    cases e328
    replace p328 := eq_true p328
    replace q328 := eq_true q328
    go_upto_region 4 with fail
    replace H := zB H; obtain ⟨t329, A10, H⟩ := H
    try dsimp only at H
    replace H := zE H; rcases H with ⟨rfl, H⟩ | ⟨rfl, H⟩
    ·go_upto_region 6 with (first | ((with_reducible refine zg122 rfl ?_); refine zl122 (some 12) #[.int .i64 (rd l0 x7_1), .int .i64 0, .int .i64 100000] ?_; (with_reducible refine (impl_in.calls (rd l0 x7_1) 0 100000 true _ A10.out).mono ?_); rintro e w' ⟨rfl, ⟨nd, rfl⟩⟩; refine ⟨_, rfl, ?_⟩))
     (try simp only [zvs])
     have H' := H; clear H
     go_wp2
     go_roundg k1
     case measure => have := HK1.out; omega
     case rel => exact ⟨(wrap64 (x7_1 + 1)), zq15, H', ⟨zq182⟩, zq65⟩
    go_upto_region 5 with (first | ((with_reducible refine zg122 rfl ?_); refine zl122 (some 12) #[.int .i64 (rd l0 x7_1), .int .i64 0, .int .i64 100000] ?_; (with_reducible refine (impl_in.calls (rd l0 x7_1) 0 100000 false _ A10.out).mono ?_); rintro e w' ⟨rfl, ⟨nd, rfl⟩⟩; refine ⟨_, rfl, ?_⟩))
    (try simp only [zvs])
    obtain rfl := zi H
    go_wp2
    go_ret
    exact ⟨zq15, zq65⟩
   go_upto_region 7 with fail
   replace H := zB H; obtain ⟨t330, A15, H⟩ := H
   try dsimp only at H
   obtain rfl := zi H
   go_wp2_with (first | ((with_reducible refine zg122 rfl ?_); refine zl122 (some 17) #[.int .i64 (l0.length : Int), .int .i64 1, .int .i64 10] ?_; (with_reducible refine (impl_in.calls (l0.length : Int) 1 10 t330 _ A15.out).mono ?_); rintro e w' ⟨rfl, ⟨nd, rfl⟩⟩; refine ⟨_, rfl, ?_⟩))
   go_ret
   exact ⟨zq15, zq65⟩

/-! ### impl_isInt: function 124 -/
def impl_isInt.f (a0 : Int) : Option (Bool) := (impl_in.f a0 (-2147483648) 2147483647).bind fun t331 => (some t331)
theorem impl_isInt.calls (a0 : Int) (r : Bool) (w : World) (h : impl_isInt.f a0 = some r) :
  Calls Try.prog 124 #[.int .i64 a0] w fun e w' => e = .returned (.bool r) ∧ Drawn0 w w' := by
 unfold impl_isInt.f at h
 have H := zA h
 clear h
 go_enter Try.func124, Try.ntmps124
 go_upto_region 0 with fail
 go_upto_region 1 with fail
 replace H := zB H; obtain ⟨t331, A4, H⟩ := H
 try dsimp only at H
 obtain rfl := zi H
 go_wp2_with (first | ((with_reducible refine zg122 rfl ?_); refine zl122 (some 4) #[.int .i64 a0, .int .i64 (-2147483648), .int .i64 2147483647] ?_; (with_reducible refine (impl_in.calls a0 (-2147483648) 2147483647 t331 _ A4.out).mono ?_); rintro e w' ⟨rfl, ⟨nd, rfl⟩⟩; refine ⟨_, rfl, ?_⟩))
 go_ret
 exact ⟨zq15, zq65⟩

end Go.Proofs.Ytkcgghgkmgbphaa.PFnMsgs
