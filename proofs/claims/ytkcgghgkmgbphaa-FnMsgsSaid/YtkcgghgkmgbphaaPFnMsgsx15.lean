-- WRITTEN BY a turned copy of the kit's printer (wip/patch_print.py), for this claim
import Derived.Test.YtkcgghgkmgbphaaPFnMsgsx0
import Derived.Test.YtkcgghgkmgbphaaPFnMsgsx12
import Derived.Test.YtkcgghgkmgbphaaPFnMsgsx13
import Derived.Test.YtkcgghgkmgbphaaPFnMsgsx14
namespace Go.Proofs.Ytkcgghgkmgbphaa.PFnMsgs
open Go.RowKit Go.Proofs.YtkcgghgkmgbphaaW.PrintWords Go.Proofs.YtkcgghgkmgbphaaW.PrintLast Go.Proofs.YtkcgghgkmgbphaaW.PrintMore
attribute [local go_sem] max2_int min2_int max_two min_two max_three min_three max_four min_four   -- for this text's walks alone
set_option linter.unusedVariables false
set_option linter.unusedSimpArgs false
set_option maxHeartbeats 8000000
set_option maxRecDepth 100000

attribute [local go_sem] cell_setCell_m
/-! ### impl_PutMsg: function 96 -/
def impl_PutMsg.j0 : Nat → ByteArray → List Int → Bool → Option (List Int)
 | 0, _, _, _ => none
 | k + 1, x0, x5, x17 => if x17 = true then (some ([] : List Int)) else ((impl_addNum.f k ([] : List Int) 2 1).bind fun t470 => (if x0.size ≤ 140737488355328 then ((impl_PutTlv.f k t470 4 ((bytesOf x0 : List Int))).bind fun t476 => (if t476.length + x5.length < 140737488355328 then ((impl_tlv.f k 48 (t476 ++ x5)).bind fun bt482 => (if bt482.2 = true then (some bt482.1) else (some ([] : List Int)))) else (none))) else (none)))
def impl_PutMsg.f (k : Nat) (a0 : ByteArray) (a1_0 : Int) (a1_1 : Int) (a1_2 : Int) (a1_3 : Int) (l1_4 : List (S116)) : Option (List Int) := (impl_PutPdu.f k a1_0 a1_1 a1_2 a1_3 l1_4).bind fun t467 => (if (t467.length : Int) = 0 then (impl_PutMsg.j0 k a0 t467 true) else (impl_PutMsg.j0 k a0 t467 (decide ((a0.size : Int) > 20))))
theorem impl_PutMsg.mono_l : ∀ k, (∀ y0 y1 y2, LeO (impl_PutMsg.j0 k y0 y1 y2) (impl_PutMsg.j0 (k + 1) y0 y1 y2))
 | 0 => fun _ _ _ r h => by simp [impl_PutMsg.j0] at h
 | k + 1 => by
  have ih0 := impl_PutMsg.mono_l k
  ·intro y0 y1 y2
   unfold impl_PutMsg.j0
   have m0_ := @impl_PutPdu.mono
   have m1_ := @impl_PutTlv.mono
   have m2_ := @impl_addNum.mono
   have m3_ := @impl_tlv.mono
   exact zR
theorem impl_PutMsg.mono : ∀ a0 a1 a2 a3 a4 a5 k, LeO (impl_PutMsg.f k a0 a1 a2 a3 a4 a5) (impl_PutMsg.f (k + 1) a0 a1 a2 a3 a4 a5) := by
 intro a0 a1 a2 a3 a4 a5 k
 have ih0 := impl_PutMsg.mono_l k
 unfold impl_PutMsg.f
 have m0_ := @impl_PutPdu.mono
 have m1_ := @impl_PutTlv.mono
 have m2_ := @impl_addNum.mono
 have m3_ := @impl_tlv.mono
 exact zR
theorem impl_PutMsg.calls (k : Nat) (a0 : ByteArray) (a1_0 : Int) (a1_1 : Int) (a1_2 : Int) (a1_3 : Int) (A1_4 : Option Addr) (c1_4 : Nat) (l1_4 : List (S116)) (r : List Int) (w : World) (hr1_4 : Kd.C k116 w A1_4 l1_4.length l1_4) (hc1_4 : l1_4.length ≤ c1_4) (h : impl_PutMsg.f k a0 a1_0 a1_1 a1_2 a1_3 l1_4 = some r) :
  Calls Try.prog 96 #[.string a0, .agg #[.int .i64 a1_0, .int .i64 a1_1, .int .i64 a1_2, .int .i64 a1_3, .slice A1_4 l1_4.length c1_4]] w fun e w' => ∃ v0_ : Value, e = .returned (v0_) ∧ Kd.R (Kd.int .u8) 5 w' w.heap.size (fun _ => True) v0_ r ∧ Below w.heap.size w w' := by
 have hu26 := Try.underlying26
 have HR1_4 := zA hr1_4
 have HC1_4 := zA hc1_4
 clear hr1_4 hc1_4
 have HB := zA (Below.refl w.heap.size w)
 unfold impl_PutMsg.f at h
 have H := zA h
 clear h
 go_enter Try.func96, Try.ntmps96
 go_upto_region 0 with fail
 go_upto_region 1 with (first | ((with_reducible refine gate_dst (N := 3) rfl ?_); (try (refine gate_guard zq94 ?_; dsimp only)); refine box_event ?hg (N := 3) ?hd (cs := #[.int .i64 a1_0, .int .i64 a1_1, .int .i64 a1_2, .int .i64 a1_3, .slice A1_4 l1_4.length c1_4]) (t := 26) ?hr ?_; (case hd => rfl); (case hg => rfl); (case hr => exact zgs); intro gb466 hg w5 hbox hb; have BK466 := zA (hbox); have GW466 := zA ((zq5 : w.heap.size ≤ gb466)); have GE466 := zA ((zq5 : w.heap.size ≤ gb466)); replace HB := zA (below_step zq0 hb); clear hb hbox hg))
 (try simp only [zvs])
 replace H := zB H; obtain ⟨t467, A6, H⟩ := H
 try dsimp only at H
 have hz8 := zc5 BK466.out
 go_upto_region 2 with (first | ((with_reducible refine zg20 rfl ?_); refine zl20 (some 9) #[.agg #[.int .i64 a1_0, .int .i64 a1_1, .int .i64 a1_2, .int .i64 a1_3, .slice A1_4 l1_4.length c1_4]] ?_; (with_reducible refine (impl_PutPdu.calls k a1_0 a1_1 a1_2 a1_3 _ _ l1_4 t467 _ ?side1 ?side2 A6.out).mono ?_); (case side1 => exact zq200); (case side2 => exact HC1_4.out); rintro e w9 ⟨v468, rfl, ho0, hb⟩; refine ⟨_, rfl, ?_⟩; have HO469 := zA (Kd.R_lower ho0 (below_size zq0)); replace BK466 := zA (zbb BK466.out hb); replace HB := zA (below_step zq0 hb); clear hb ho0))
 (try simp only [zvs])
 go_upto_region 2 with fail
 go_cut [17] (fun v17 wc => ∃ (kq : Nat) (x17_9 : Bool), v17 = .bool x17_9 ∧ Aside0 (impl_PutMsg.j0 kq a0 t467 x17_9 = some r) ∧ Aside0 (kq ≤ k) ∧ Aside0 (Kd.R (Kd.int .u8) 5 wc w.heap.size (fun _ => True) v468 t467) ∧ Aside0 (wc.heap[gb466]? = some (.cells #[.int .i64 a1_0, .int .i64 a1_1, .int .i64 a1_2, .int .i64 a1_3, (.slice A1_4 l1_4.length c1_4)] 26 (0, 0))) ∧ Aside0 (Below w.heap.size w wc))
 case first =>
  replace H := zP H; rcases H with ⟨c11, H⟩ | ⟨c11, H⟩
  ·have c11b0 : ((t467.length : Int) == 0) = true := beq_iff_eq.mpr c11
   have c11b1 : ((t467.length : Int) != 0) = false := bne_eq_false_iff_eq.mpr c11
   clear c11
   (first | rw [c11b0] | (simp only [i64_w, i32_w]; rw [c11b0]) | skip)
   have H' := H; clear H
   obtain ⟨Ao12, co12, eo12⟩ := Kd.R_slice HO469.out
   subst eo12
   go_wp2
   go_meet
   case rel => exact ⟨_, (true), zq15, H', ⟨zq120⟩, ⟨(zrk HO469.out)⟩, ⟨(zbk BK466.out)⟩, ⟨zq0⟩⟩
  have c11b0 : ((t467.length : Int) == 0) = false := beq_eq_false_iff_ne.mpr c11
  have c11b1 : ((t467.length : Int) != 0) = true := bne_iff_ne.mpr c11
  have c11b2 : ¬ (t467 = []) := fun h_ => c11 (by rw [h_]; rfl)
  (first | rw [c11b0] | (simp only [i64_w, i32_w]; rw [c11b0]) | skip)
  have H' := H; clear H
  obtain ⟨Ao13, co13, eo13⟩ := Kd.R_slice HO469.out
  subst eo13
  go_wp2
  go_meet
  case rel => exact ⟨_, (decide ((a0.size : Int) > 20)), zq15, H', ⟨zq120⟩, ⟨(zrk HO469.out)⟩, ⟨(zbk BK466.out)⟩, ⟨zq0⟩⟩
 case rest =>
  try clear c1
  try clear c2
  try clear p2
  try clear c9
  try clear c11
  try clear c11b0
  try clear c11b1
  try clear c11b2
  try clear hz8
  obtain ⟨kq, x17_9, rfl, HA, HJ9, HO_5, BK466, HB⟩ := hcut
  cases kq with
  | zero => exact absurd HA.out (by simp [impl_PutMsg.j0])
  | succ kj9 =>
   have H := HA
   clear HA
   simp only [impl_PutMsg.j0] at H
   replace H := zE H; rcases H with ⟨rfl, H⟩ | ⟨rfl, H⟩
   ·go_upto_region 3 with fail
    obtain rfl := zi H
    go_wp2
    go_ret
    exact ⟨_, zq1, zq7, zq0⟩
   go_upto_region 4 with fail
   replace H := zB H; obtain ⟨t470, A17, H⟩ := H
   try dsimp only at H
   replace H := zN H; obtain ⟨c18, H⟩ := H
   have c18b0 := eq_true c18
   have c18b1 : decide (a0.size ≤ 140737488355328) = true := decide_eq_true c18
   clear c18
   obtain ⟨y473, hy473⟩ : ∃ y_ : List Int, y_ = ((bytesOf a0 : List Int)) := ⟨_, rfl⟩
   rw [← hy473] at H
   have Ny473 := zA hy473
   clear hy473
   replace H := zB H; obtain ⟨t476, A19, H⟩ := H
   try dsimp only at H
   replace H := zN H; obtain ⟨c20, H⟩ := H
   have LMc20 := zA c20
   clear c20
   obtain ⟨y479, hy479⟩ : ∃ y_ : List Int, y_ = (t476 ++ t467) := ⟨_, rfl⟩
   rw [← hy479] at H
   have Ny479 := zA hy479
   clear hy479
   replace H := zB H; obtain ⟨⟨t482, t483⟩, A21, H⟩ := H
   try dsimp only at H
   go_upto_region 5 with (first | ((with_reducible refine zg109 rfl ?_); refine zl109 (some 19) #[.slice none 0 0, .int .i64 2, .int .i64 1] ?_; (refine (impl_addNum.calls kj9 _ _ ([] : List Int) 2 1 t470 _ ?side1 ?side2 A17.out).mono ?_); (case side1 => exact Kd.C_nil _ _); (case side2 => exact Nat.le_refl _); rintro e w23 ⟨v471, rfl, ho0, hb⟩; refine ⟨_, rfl, ?_⟩; have HO472 := zA (Kd.R_lower (Kd.R_new' ho0 (Kd.R_lt zq11)) (below_size zq0)); replace HO_5 := zA (Kd.R_elder' zq11 (Kd.R_base ho0) hb); replace BK466 := zA (zbb BK466.out hb); replace HB := zA (below_step zq0 hb); clear hb ho0) | ((with_reducible refine gate_dst (N := 21) rfl ?_); (try (refine gate_guard zq94 ?_; dsimp only)); refine V_conv _ ?hg (N := 21) ?hd ?hx 9 22 5 ?ho Try.underlying9 Try.underlying22 Try.underlying5 a0 ?hr (ok := fun k_ => w23.heap.size ≤ k_) (Nat.le_refl _) ?hm (Below.refl _ _) (Nat.le_refl _) ?_; (case hd => rfl); (case hg => rfl); (case ho => rfl); (case hr => first | rfl | (go_simp; done) | (go_simp; rfl)); (case hm => exact of_decide_eq_true zq13); intro v474 w24 ho25 hb hg_ hnew_; clear hg_ hnew_; (first | rw [← Ny473.out] at ho25 | (simp only [Int.reduceToNat] at ho25; rw [← Ny473.out] at ho25)); have HO475 := zA (Kd.V_lower (Kd.V_mono (ok' := fun k_ => some k_ ≠ (v468 : Value).ownBlock ∧ some k_ ≠ (v471 : Value).ownBlock ∧ k_ ≠ gb466) ho25 (fun k_ hk_ => ⟨(Kd.fresh' (Kd.R_lt zq11) k_ hk_), (Kd.fresh' (Kd.R_lt (zrk HO472.out)) k_ hk_), (Kd.freshB (g := gb466) (o := .cells #[.int .i64 a1_0, .int .i64 a1_1, .int .i64 a1_2, .int .i64 a1_3, .slice A1_4 l1_4.length c1_4] 26 (0, 0)) (zbk BK466.out) k_ hk_)⟩)) (below_size zq0)); replace HO_5 := zA (Kd.R_below zq11 hb); replace HO472 := zA (Kd.R_below (zrk HO472.out) hb); replace BK466 := zA (zbb BK466.out hb); replace HB := zA (below_step zq0 hb); clear hb ho25; obtain ⟨Ao26, co26, eo26⟩ := Kd.R_slice HO472.out; subst eo26; obtain ⟨Ao27, co27, eo27⟩ := Kd.V_slice HO475.out; subst eo27) | ((with_reducible refine zg107 rfl ?_); refine zl107 (some 22) #[.slice Ao26 t470.length co26, .int .i64 4, .slice Ao27 y473.length co27] ?_; (with_reducible refine (impl_PutTlv.calls kj9 _ _ t470 4 _ _ y473 t476 _ ?side1 ?side2 ?side3 ?side4 A19.out).mono ?_); (case side1 => exact (zck (Kd.R_reads' HO472.out).2.2)); (case side2 => exact (Kd.R_reads' HO472.out).2.1); (case side3 => exact (by repeat (first | exact (Kd.V_reads' HO475.out).2.2 | (with_reducible refine Kd.C_alloc ?_ _) | (with_reducible refine Kd.C_drewN ?_ _) | (with_reducible refine Kd.C_drew ?_)))); (case side4 => exact (Kd.V_reads' HO475.out).2.1); rintro e w28 ⟨v477, rfl, ho0, hb⟩; refine ⟨_, rfl, ?_⟩; replace HO475 := zA (Kd.V_elder' zq241 (Kd.R_base ho0) hb); have HO478 := zA (Kd.R_lower (Kd.R_new' (Kd.R_new' ho0 (Kd.R_lt zq11)) (Kd.R_lt (zrk HO472.out))) (below_size zq0)); replace HO_5 := zA (Kd.R_elder' zq11 (Kd.R_base ho0) hb); replace HO472 := zA (Kd.R_elder' (zrk HO472.out) (Kd.R_base ho0) hb); replace BK466 := zA (zbb BK466.out hb); replace HB := zA (below_step zq0 hb); clear hb ho0; obtain ⟨Ao30, co30, eo30⟩ := Kd.R_slice HO_5.out; subst eo30) | ((with_reducible refine gate_builtin (b := .append) (xs := #[.tmp 22, .tmp 23]) rfl ?_); (try (refine gate_guard zq94 ?_; dsimp only)); at_builtin; refine Kd.R_append_rows (Kd.int .u8) (w0 := w) w.heap.size rfl (.tmp 22) (.tmp 23) 22 5 (.int .u8 0) 1 rfl Try.underlying22 info5 rfl zq52 zq183 v477 t476 t467 _ _ _ (fun k_ => some k_ ≠ (.slice Ao30 t467.length co30 : Value).ownBlock ∧ some k_ ≠ (.slice Ao26 t470.length co26 : Value).ownBlock) (fun _ => False) rfl rfl ?aO ?aR (fun _ _ h => h) (fun _ h => h.elim) ?aF ?aB ?aS ?aL ?_; (case aR => exact zq35); (case aB => exact zq0); (case aF => exact (fun k_ hk => ⟨Kd.fresh' (Kd.R_lt zq11) k_ hk, Kd.fresh' (Kd.R_lt (zrk HO472.out)) k_ hk⟩)); (case aO => exact (by (with_reducible repeat (first | apply Kd.R_alloc | apply Kd.R_drewN | apply Kd.R_drew)); exact Kd.R_mono HO478.out (fun _ hk => ⟨hk.1.2, hk.2⟩))); (case aS => exact (below_size zq0)); (case aL => have := LMc20.out; omega); intro v480 w29 ho hb hg hat; rw [← Ny479.out] at ho; replace HO_5 := zA (Kd.R_after (ok := (fun k_ => some k_ ≠ (.slice Ao26 t470.length co26 : Value).ownBlock)) (by (with_reducible repeat (first | apply Kd.R_alloc | apply Kd.R_drewN | apply Kd.R_drew)); exact Kd.R_mono HO_5.out (fun _ hk => ⟨hk.1.2, hk.2⟩)) hg hat); replace BK466 := zA (blk_grown (g := gb466) (o := .cells #[.int .i64 a1_0, .int .i64 a1_1, .int .i64 a1_2, .int .i64 a1_3, .slice A1_4 l1_4.length c1_4] 26 (0, 0)) (zbk BK466.out) hg (Kd.R_ne HO478.out BK466.out zq52)); replace HO472 := zA (Kd.R_after (ok := (fun k_ => some k_ ≠ (.slice Ao30 t467.length co30 : Value).ownBlock)) (by (with_reducible repeat (first | apply Kd.R_alloc | apply Kd.R_drewN | apply Kd.R_drew)); exact Kd.R_mono HO472.out (fun _ hk => ⟨hk.1.2, hk.2⟩)) hg hat); replace HO475 := zA (Kd.V_afterv (ok := (fun k_ => some k_ ≠ (.slice Ao30 t467.length co30 : Value).ownBlock ∧ some k_ ≠ (.slice Ao26 t470.length co26 : Value).ownBlock ∧ k_ ≠ gb466)) zq241 hg hat); replace HB := zA (hb); have HO481 := zA (ho); clear HO478; clear ho hb hg hat; obtain ⟨Ao31, co31, eo31⟩ := Kd.R_slice HO481.out; subst eo31) | ((with_reducible refine zg106 rfl ?_); refine zl106 (some 25) #[.int .i64 48, .slice Ao31 y479.length co31] ?_; (with_reducible refine (impl_tlv.calls kj9 48 _ _ y479 t482 t483 _ ?side1 ?side2 A21.out).mono ?_); (case side1 => exact (zck (Kd.R_reads' HO481.out).2.2)); (case side2 => exact (Kd.R_reads' HO481.out).2.1); rintro e w32 ⟨v484, rfl, ho0, hb⟩; refine ⟨_, rfl, ?_⟩; replace HO475 := zA (Kd.V_elder' zq241 (Kd.R_base ho0) hb); have HO485 := zA (Kd.R_lower (Kd.R_new' (Kd.R_new' (Kd.R_new' ho0 (Kd.R_lt zq11)) (Kd.R_lt (zrk HO472.out))) (Kd.R_lt (zrk HO481.out))) (below_size zq0)); replace HO_5 := zA (Kd.R_elder' zq11 (Kd.R_base ho0) hb); replace HO472 := zA (Kd.R_elder' (zrk HO472.out) (Kd.R_base ho0) hb); replace HO481 := zA (Kd.R_elder' (zrk HO481.out) (Kd.R_base ho0) hb); replace BK466 := zA (zbb BK466.out hb); replace HB := zA (below_step zq0 hb); clear hb ho0))
   (try simp only [zvs])
   (try (rw [drewN_self w32]; generalize hq_ : World.drewN w32 _ = w32; replace HO_5 := zA (Kd.R_at hq_ HO_5.out); replace HO472 := zA (Kd.R_at hq_ HO472.out); replace HO475 := zA (Kd.V_at hq_ HO475.out); replace HO481 := zA (Kd.R_at hq_ HO481.out); replace HO485 := zA (Kd.R_at hq_ HO485.out); replace BK466 := zA (blk_at hq_ BK466.out); replace HB := zA (below_at hq_ HB.out); clear hq_))
   replace H := zE H; rcases H with ⟨rfl, H⟩ | ⟨rfl, H⟩
   ·go_upto_region 7 with fail
    obtain rfl := zi H
    go_wp2
    go_ret
    exact ⟨_, zq1, (by (with_reducible repeat (first | apply Kd.R_alloc | apply Kd.R_drewN | apply Kd.R_drew)); exact Kd.R_mono HO485.out (fun _ hk => trivial)), zq0⟩
   go_upto_region 6 with fail
   obtain rfl := zi H
   go_wp2
   go_ret
   exact ⟨_, zq1, zq7, zq0⟩

/-- A state of type 170 at block g of W; what its slices lead to came in by w0. -/
def IsS170 (w0 W : World) (g : Nat) (f0 : List Int) (f1 : Int) (f2 : Int) : Prop := ∃ A0 c0, W.heap[g]? = some (.cells #[.slice A0 f0.length c0, .int .i64 f1, .int .i64 f2] 170 (0, 0)) ∧ w0.heap.size ≤ g ∧ (Kd.C (Kd.int .u8) w0 A0 f0.length f0 ∧ f0.length ≤ c0)
theorem IsS170.grown {w0 W : World} {g : Nat} {f0 : List Int} {f1 : Int} {f2 : Int} {W1 : World} {row : Option Nat} (h : IsS170 w0 W g f0 f1 f2) (hw : W.grownBy W1 row) (hne : some g ≠ row) : IsS170 w0 W1 g f0 f1 f2 := by
 obtain ⟨A0, c0, hb, hg, hr0⟩ := h
 exact ⟨A0, c0, blk_grown hb hw hne, hg, hr0⟩
theorem IsS170.own_neN {w0 W : World} {g : Nat} {f0 : List Int} {f1 : Int} {f2 : Int} {α : Type} {d : Kd α} {e : Nat} {base : Nat} {ok : Nat → Prop} {v : Value} {xs : List α} (h : IsS170 w0 W g f0 f1 f2) (ho : Kd.N d e W base ok v xs) (ht : e ≠ 170) : some g ≠ v.ownBlock := by
 obtain ⟨A0, c0, hb, hg, hr0⟩ := h
 exact Kd.N_ne ho hb ht
theorem IsS170.fresh {w0 W : World} {g : Nat} {f0 : List Int} {f1 : Int} {f2 : Int} (h : IsS170 w0 W g f0 f1 f2) : ∀ k, W.heap.size ≤ k → k ≠ g := by
 obtain ⟨A0, c0, hb, hg, hr0⟩ := h
 exact Kd.freshB hb
theorem IsS170.kept {w0 W : World} {g : Nat} {f0 : List Int} {f1 : Int} {f2 : Int} {W1 : World} {S : Nat → Prop} (h : IsS170 w0 W g f0 f1 f2) (hk : Kept W W1 S) (hne : ¬ S g) : IsS170 w0 W1 g f0 f1 f2 := by
 obtain ⟨A0, c0, hb, hg, hr0⟩ := h
 exact ⟨A0, c0, blk_kept hb hk hne, hg, hr0⟩
theorem IsS170.below {w0 W : World} {g : Nat} {f0 : List Int} {f1 : Int} {f2 : Int} {W1 : World} (h : IsS170 w0 W g f0 f1 f2) (hw : Below W.heap.size W W1) : IsS170 w0 W1 g f0 f1 f2 := h.grown (grown_of_below hw none) zq219
theorem IsS170.alloc {w0 W : World} {g : Nat} {f0 : List Int} {f1 : Int} {f2 : Int} (h : IsS170 w0 W g f0 f1 f2) (o : Obj) : IsS170 w0 (W.alloc o) g f0 f1 f2 := h.below (below_alloc (Below.refl _ _) o)
theorem IsS170.drewN {w0 W : World} {g : Nat} {f0 : List Int} {f1 : Int} {f2 : Int} (h : IsS170 w0 W g f0 f1 f2) (m : Nat) : IsS170 w0 (W.drewN m) g f0 f1 f2 := h
theorem IsS170.drew {w0 W : World} {g : Nat} {f0 : List Int} {f1 : Int} {f2 : Int} (h : IsS170 w0 W g f0 f1 f2) : IsS170 w0 W.drew g f0 f1 f2 := h
theorem IsS170.at_ {w0 W : World} {g : Nat} {f0 : List Int} {f1 : Int} {f2 : Int} {w' : World} {m : Nat} (hq : W.drewN m = w') (h : IsS170 w0 W g f0 f1 f2) : IsS170 w0 w' g f0 f1 f2 := by subst hq; exact IsS170.drewN h m
theorem IsS170.apart {w0 W : World} {g : Nat} {f0 : List Int} {f1 : Int} {f2 : Int} {α : Type} {d : Kd α} {e : Nat} {base : Nat} {ok : Nat → Prop} {v : Value} {xs : List α} (h : IsS170 w0 W g f0 f1 f2) (ho : d.R e W base ok v xs) (ht : ∀ q, q ∈ e :: d.E → q ≠ 170) : d.R e W base (fun k => ok k ∧ k ≠ g) v xs := by
 obtain ⟨A0, c0, hb, hg, hr0⟩ := h
 exact Kd.R_types ho hb ht
theorem IsS170.own_ne {w0 W : World} {g : Nat} {f0 : List Int} {f1 : Int} {f2 : Int} {α : Type} {d : Kd α} {e : Nat} {base : Nat} {ok : Nat → Prop} {v : Value} {xs : List α} (h : IsS170 w0 W g f0 f1 f2) (ho : d.R e W base ok v xs) (ht : e ≠ 170) : some g ≠ v.ownBlock := by
 obtain ⟨A0, c0, hb, hg, hr0⟩ := h
 exact Kd.R_ne ho hb ht
theorem IsS170.apartQ {w0 W : World} {g : Nat} {f0 : List Int} {f1 : Int} {f2 : Int} {α : Type} {d : Kd α} {e : Nat} {base : Nat} {ok : Nat → Prop} {v : Value} {xs : List α} (h : IsS170 w0 W g f0 f1 f2) (ho : d.Q e W base ok v xs) (ht : ∀ q, q ∈ e :: d.E → q ≠ 170) : d.Q e W base (fun k => ok k ∧ k ≠ g) v xs := by
 obtain ⟨A0, c0, hb, hg, hr0⟩ := h
 exact Kd.Q_types ho hb ht
theorem IsS170.own_neQ {w0 W : World} {g : Nat} {f0 : List Int} {f1 : Int} {f2 : Int} {α : Type} {d : Kd α} {e : Nat} {base : Nat} {ok : Nat → Prop} {v : Value} {xs : List α} (h : IsS170 w0 W g f0 f1 f2) (ho : d.Q e W base ok v xs) (ht : e ≠ 170) : some g ≠ v.ownBlock := by
 obtain ⟨A0, c0, hb, hg, hr0⟩ := h
 exact Kd.Q_ne ho hb ht
theorem IsS170.apartS {w0 W : World} {g : Nat} {f0 : List Int} {f1 : Int} {f2 : Int} {α : Type} {d : Kd α} {e : Nat} {base : Nat} {ok : Nat → Prop} {v : Value} {xs : List α} (h : IsS170 w0 W g f0 f1 f2) (ho : d.S e W base ok v xs) (ht : ∀ q, q ∈ e :: d.E → q ≠ 170) : d.S e W base (fun k => ok k ∧ k ≠ g) v xs := by
 obtain ⟨A0, c0, hb, hg, hr0⟩ := h
 exact Kd.S_types ho hb ht
theorem IsS170.own_neS {w0 W : World} {g : Nat} {f0 : List Int} {f1 : Int} {f2 : Int} {α : Type} {d : Kd α} {e : Nat} {base : Nat} {ok : Nat → Prop} {v : Value} {xs : List α} (h : IsS170 w0 W g f0 f1 f2) (ho : d.S e W base ok v xs) (ht : e ≠ 170) : some g ≠ v.ownBlock := by
 obtain ⟨A0, c0, hb, hg, hr0⟩ := h
 exact Kd.S_ne ho hb ht
theorem IsS170.lt {w0 W : World} {g : Nat} {f0 : List Int} {f1 : Int} {f2 : Int} (h : IsS170 w0 W g f0 f1 f2) : g < W.heap.size := by
 obtain ⟨A0, c0, hb, hg, hr0⟩ := h
 exact blk_lt hb
theorem IsS170.ge {w0 W : World} {g : Nat} {f0 : List Int} {f1 : Int} {f2 : Int} (h : IsS170 w0 W g f0 f1 f2) : w0.heap.size ≤ g := by
 obtain ⟨A0, c0, hb, hg, hr0⟩ := h
 exact hg
theorem IsS170.ne_blk {w0 W : World} {g : Nat} {f0 : List Int} {f1 : Int} {f2 : Int} {a : Nat} {cs : Array Value} {t : TypeId} {fr : Nat × Nat} (h : IsS170 w0 W g f0 f1 f2) (hb2 : W.heap[a]? = some (.cells cs t fr)) (ht : t ≠ 170) : g ≠ a := by
 obtain ⟨A0, c0, hb, hg, hr0⟩ := h
 rintro rfl
 rw [hb] at hb2
 injection hb2 with hb2
 injection hb2 with _ ht2
 exact ht ht2.symm
theorem IsS170.far {w0 W : World} {g : Nat} {f0 : List Int} {f1 : Int} {f2 : Int} {p : Addr} (h : IsS170 w0 W g f0 f1 f2) (hne : g ≠ p.block) (u : Value) : IsS170 w0 (W.setCell p u) g f0 f1 f2 := by
 obtain ⟨A0, c0, hb, hg, hr0⟩ := h
 exact ⟨A0, c0, blk_far hb hne u, hg, hr0⟩
theorem cellS170_0 {W : World} {g : Nat} {A0 : Option Addr} {c0 : Nat} {f0 : List Int} {f1 : Int} {f2 : Int} (h : W.heap[g]? = some (.cells #[.slice A0 f0.length c0, .int .i64 f1, .int .i64 f2] 170 (0, 0))) : W.cell? ⟨g, 0, none⟩ = some (.slice A0 f0.length c0) := (blk_cell h 0).trans rfl
theorem cellS170_1 {W : World} {g : Nat} {A0 : Option Addr} {c0 : Nat} {f0 : List Int} {f1 : Int} {f2 : Int} (h : W.heap[g]? = some (.cells #[.slice A0 f0.length c0, .int .i64 f1, .int .i64 f2] 170 (0, 0))) : W.cell? ⟨g, 1, none⟩ = some (.int .i64 f1) := (blk_cell h 1).trans rfl
theorem IsS170.set_1 {w0 W : World} {g : Nat} {f0 : List Int} {f1 : Int} {f2 : Int} (h : IsS170 w0 W g f0 f1 f2) (x : Int) : IsS170 w0 (W.setCell ⟨g, 1, none⟩ (.int .i64 x)) g f0 x f2 := by
 obtain ⟨A0, c0, hb, hg, hr0⟩ := h
 exact ⟨A0, c0, (by simpa using blk_set hb 1 (.int .i64 x)), hg, hr0⟩
theorem cellS170_2 {W : World} {g : Nat} {A0 : Option Addr} {c0 : Nat} {f0 : List Int} {f1 : Int} {f2 : Int} (h : W.heap[g]? = some (.cells #[.slice A0 f0.length c0, .int .i64 f1, .int .i64 f2] 170 (0, 0))) : W.cell? ⟨g, 2, none⟩ = some (.int .i64 f2) := (blk_cell h 2).trans rfl
theorem IsS170.set_2 {w0 W : World} {g : Nat} {f0 : List Int} {f1 : Int} {f2 : Int} (h : IsS170 w0 W g f0 f1 f2) (x : Int) : IsS170 w0 (W.setCell ⟨g, 2, none⟩ (.int .i64 x)) g f0 f1 x := by
 obtain ⟨A0, c0, hb, hg, hr0⟩ := h
 exact ⟨A0, c0, (by simpa using blk_set hb 2 (.int .i64 x)), hg, hr0⟩
theorem IsS170.new (w0 W : World) (A0 : Option Addr) (c0 : Nat) (f0 : List Int) (f1 : Int) (f2 : Int) (hB : Below w0.heap.size w0 W) (hr0 : Kd.C (Kd.int .u8) w0 A0 f0.length f0 ∧ f0.length ≤ c0) : IsS170 w0 (W.alloc (.cells #[.slice A0 f0.length c0, .int .i64 f1, .int .i64 f2] 170)) W.heap.size f0 f1 f2 := ⟨A0, c0, (by simpa using heap_alloc_new W _), hB.size, hr0⟩

/-! ### spec_l1New: function 104 -/
def spec_l1New.l0 : Nat → List Int → Int → Int → Option (List Int × Int × Int)
 | 0, _, _, _ => none
 | k + 1, x0, x3, x4 => if x4 < (x0.length : Int) then (if x4 < 4000 then (if 0 ≤ x4 then (spec_l1New.l0 k x0 (Go.bits .and .i64 (wrap64 ((wrap64 ((wrap64 (x3 * 137)) + (wrap64 (rd x0 x4)))) + 11)) 1073741823) (wrap64 (x4 + 1))) else (none)) else (some (x0, 0, x3))) else (some (x0, 0, x3))
def spec_l1New.f (k : Nat) (l0 : List Int) : Option (List Int × Int × Int) := spec_l1New.l0 k l0 (wrap64 (762762 + (l0.length : Int))) 0
theorem spec_l1New.mono_l : ∀ k, (∀ y0 y1 y2, LeO (spec_l1New.l0 k y0 y1 y2) (spec_l1New.l0 (k + 1) y0 y1 y2))
 | 0 => fun _ _ _ r h => by simp [spec_l1New.l0] at h
 | k + 1 => by
  have ih0 := spec_l1New.mono_l k
  ·intro y0 y1 y2
   unfold spec_l1New.l0
   exact zR
theorem spec_l1New.mono : ∀ a0 k, LeO (spec_l1New.f k a0) (spec_l1New.f (k + 1) a0) := by
 intro a0 k
 have ih0 := spec_l1New.mono_l k
 unfold spec_l1New.f
 exact zR
theorem spec_l1New.calls (k : Nat) (A0 : Option Addr) (c0 : Nat) (l0 : List Int) (r1 : List Int) (r2 : Int) (r3 : Int) (w0 w : World) (hB : Below w0.heap.size w0 w) (hr0 : Kd.C (Kd.int .u8) w0 A0 l0.length l0) (hc0 : l0.length ≤ c0) (h : spec_l1New.f k l0 = some (r1, r2, r3)) :
  Calls Try.prog 104 #[.slice A0 l0.length c0] w fun e w' => ∃ g_ : Nat, e = .returned (.pointer (some ⟨g_, 0, none⟩)) ∧ IsS170 w0 w' g_ r1 r2 r3 ∧ Below w0.heap.size w0 w' ∧ Below w.heap.size w w' := by
 have hu170 := Try.underlying170
 have HR0 := zA hr0
 have HC0 := zA hc0
 clear hr0 hc0
 have HBW := zA (Below.refl w.heap.size w)
 have HW0 := zA hB.size
 have HB := zA hB
 clear hB
 unfold spec_l1New.f at h
 have H := zA h
 clear h
 go_enter Try.func104, Try.ntmps104
 go_upto_region 0 with fail
 go_upto_region 1 with fail
 go_upto_region 2 with fail
 have H' := H; clear H
 go_wp2
 go_loopg [3, 4] k (fun kq v3 v4 w' => ∃ (x3_1 : Int) (x4_1 : Int), v3 = .int .i64 x3_1 ∧ v4 = .int .i64 x4_1 ∧ Aside0 (spec_l1New.l0 kq l0 x3_1 x4_1 = some (r1, r2, r3)) ∧ Aside0 (kq ≤ k) ∧ Aside0 (Below w.heap.size w w') ∧ Aside0 (Below w0.heap.size w0 w'))
 case atStart => exact ⟨(wrap64 (762762 + (l0.length : Int))), (0), zq15, zq15, H', ⟨Nat.le_refl _⟩, ⟨zq139⟩, ⟨zq0⟩⟩
 case round =>
  clear H'
  try clear c1
  try clear p2
  obtain ⟨x3_1, x4_1, rfl, rfl, HA, HK1, HBW, HB⟩ := hrel
  cases gk with
  | zero => exact absurd HA.out (by simp [spec_l1New.l0])
  | succ k1 =>
   have H := HA
   clear HA
   simp only [spec_l1New.l0] at H
   go_upto_region 3 with fail
   replace H := zPd H; rcases H with ⟨c6b0, H⟩ | ⟨c6b0, H⟩
   ·replace H := zPd H; rcases H with ⟨c7b0, H⟩ | ⟨c7b0, H⟩
    ·go_upto_region 5 with fail
     replace H := zNd H; obtain ⟨c9b0, H⟩ := H
     have p486 : 0 ≤ (x4_1 : Int) := of_decide_eq_true zq13
     have q486 : x4_1 < (l0.length : Int) := of_decide_eq_true zq13
     obtain ⟨ad486, e486, hx486_0⟩ := Kd.at_int HR0.out x4_1 p486 q486
     cases e486
     replace hx486_0 := pw_cell_below HB.out hx486_0
     replace p486 := eq_true p486
     replace q486 := eq_true q486
     go_upto_region 4 with fail
     have H' := H; clear H
     go_wp2
     go_roundg k1
     case measure => have := HK1.out; omega
     case rel => exact ⟨(Go.bits .and .i64 (wrap64 ((wrap64 ((wrap64 (x3_1 * 137)) + (wrap64 (rd l0 x4_1)))) + 11)) 1073741823), (wrap64 (x4_1 + 1)), zq15, zq15, H', ⟨zq182⟩, ⟨zq139⟩, ⟨zq0⟩⟩
    go_upto_region 6 with fail
    obtain ⟨rfl, rfl, rfl⟩ := zt3 H
    go_wp2_with (first | ((with_reducible refine gate_dst (N := 31) rfl ?_); refine box_event ?hg (N := 31) ?hd (cs := #[.slice A0 l0.length c0, .int .i64 0, .int .i64 x3_1]) (t := 170) ?hr ?_; (case hd => rfl); (case hg => rfl); (case hr => exact zgs); intro gb487 hg w12 hbox hb; replace HB := zA (below_step zq0 hb); have BK487 := zA (hbox); have GW487 := zA ((zq179 : w.heap.size ≤ gb487)); have GE487 := zA ((Nat.le_trans HW0.out (zq179 : w.heap.size ≤ gb487) : w0.heap.size ≤ gb487)); replace HBW := zA (below_step HBW.out hb); clear hb hbox hg))
    go_ret
    exact ⟨_, rfl, (show IsS170 w0 _ gb487 l0 0 x3_1 from ⟨_, _, (zbk BK487.out), GE487.out, ⟨HR0.out, HC0.out⟩⟩), zq0, (by repeat (first | (with_reducible first | exact HBW.out | apply below_alloc | apply pw_below_drewN | apply below_drew1 | refine below_set ?_ GW487.out) | exact HBW.out))⟩
   go_upto_region 6 with fail
   obtain ⟨rfl, rfl, rfl⟩ := zt3 H
   go_wp2_with (first | ((with_reducible refine gate_dst (N := 31) rfl ?_); refine box_event ?hg (N := 31) ?hd (cs := #[.slice A0 l0.length c0, .int .i64 0, .int .i64 x3_1]) (t := 170) ?hr ?_; (case hd => rfl); (case hg => rfl); (case hr => exact zgs); intro gb488 hg w14 hbox hb; replace HB := zA (below_step zq0 hb); have BK488 := zA (hbox); have GW488 := zA ((zq179 : w.heap.size ≤ gb488)); have GE488 := zA ((Nat.le_trans HW0.out (zq179 : w.heap.size ≤ gb488) : w0.heap.size ≤ gb488)); replace HBW := zA (below_step HBW.out hb); clear hb hbox hg))
   go_ret
   exact ⟨_, rfl, (show IsS170 w0 _ gb488 l0 0 x3_1 from ⟨_, _, (zbk BK488.out), GE488.out, ⟨HR0.out, HC0.out⟩⟩), zq0, (by repeat (first | (with_reducible first | exact HBW.out | apply below_alloc | apply pw_below_drewN | apply below_drew1 | refine below_set ?_ GW488.out) | exact HBW.out))⟩

/-! ### spec_l1Byte: function 184 -/
def spec_l1Byte.f (s0_0 : List Int) (s0_1 : Int) (s0_2 : Int) : Option (Int × Int × Int) := if s0_1 < (s0_0.length : Int) then (if 0 ≤ s0_1 then (some (Go.bits .and .i64 (wrap64 ((Go.bits .and .i64 (Go.bits .xor .i64 ((wrap64 ((wrap64 (s0_2 * 6364136223846793005)) + 1442695040888963407)) / 8589934592) ((wrap64 ((wrap64 (s0_2 * 6364136223846793005)) + 1442695040888963407)) / 140737488355328)) 255) + (wrap64 (rd s0_0 s0_1)))) 255, wrap64 (s0_1 + 1), wrap64 ((wrap64 (s0_2 * 6364136223846793005)) + 1442695040888963407))) else (none)) else (some (Go.bits .and .i64 (Go.bits .xor .i64 ((wrap64 ((wrap64 (s0_2 * 6364136223846793005)) + 1442695040888963407)) / 8589934592) ((wrap64 ((wrap64 (s0_2 * 6364136223846793005)) + 1442695040888963407)) / 140737488355328)) 255, s0_1, wrap64 ((wrap64 (s0_2 * 6364136223846793005)) + 1442695040888963407)))
theorem spec_l1Byte.calls (g : Nat) (s0_0 : List Int) (s0_1 : Int) (s0_2 : Int) (r1 : Int) (r2 : Int) (r3 : Int) (w0 w : World) (hI : IsS170 w0 w g s0_0 s0_1 s0_2) (hB : Below w0.heap.size w0 w) (h : spec_l1Byte.f s0_0 s0_1 s0_2 = some (r1, r2, r3)) :
  Calls Try.prog 184 #[.pointer (some ⟨g, 0, none⟩)] w fun e w' => e = .returned (.int .i64 r1) ∧ IsS170 w0 w' g s0_0 r2 r3 ∧ Below w0.heap.size w0 w' ∧ KeepBut w w' g none := by
 have HI0 := zA hI
 have HK := zA (KeepBut.refl w g none)
 have HL := zA hB.size
 clear hI
 have HW0 := zA hB.size
 have HB := zA hB
 clear hB
 unfold spec_l1Byte.f at h
 have H := zA h
 clear h
 replace H := zPd H; rcases H with ⟨c2b0, H⟩ | ⟨c2b0, H⟩
 ·replace H := zNd H; obtain ⟨c3b0, H⟩ := H
  obtain ⟨rfl, rfl, rfl⟩ := zt3 H
  obtain ⟨ASz4_0, cSz4_0, HGz4, hgz4, ⟨HSz4_0, HSKz4_0⟩⟩ := HI0.out
  have HSCz4_0 := zA HSKz4_0
  clear HSKz4_0
  have hcz4_0 := cellS170_0 HGz4
  have hcz4_1 := cellS170_1 HGz4
  have hcz4_2 := cellS170_2 HGz4
  have hfz4_1 := blk_frozen HGz4 1
  have hfz4_2 := blk_frozen HGz4 2
  clear HGz4 hgz4
  have p489 : 0 ≤ (s0_1 : Int) := of_decide_eq_true zq13
  have q489 : s0_1 < (s0_0.length : Int) := of_decide_eq_true zq13
  obtain ⟨ad489, e489, hx489_0⟩ := Kd.at_int HSz4_0 s0_1 p489 q489
  cases e489
  have hn489_0 : ad489.block ≠ g := Nat.ne_of_lt (Nat.lt_of_lt_of_le (by have := World.block_lt_of_cell? _ _ hx489_0; first | rwa [add_block] at this | exact this) (IsS170.ge HI0.out))
  replace hx489_0 := pw_cell_below HB.out hx489_0
  replace hx489_0 := (cell_far (p := ⟨g, 2, none⟩) (by first | (rw [add_block]; exact hn489_0) | (show (Addr.add _ _).block ≠ _; rw [add_block]; exact hn489_0) | exact hn489_0) (.int .i64 (wrap64 ((wrap64 (s0_2 * 6364136223846793005)) + 1442695040888963407)))).trans hx489_0
  (try have hy489_0 := fun (n_ : Nat) => (show (((w.drewN n_).setCell ⟨g, 2, none⟩ (.int .i64 (wrap64 ((wrap64 (s0_2 * 6364136223846793005)) + 1442695040888963407))))).cell? _ = some _ from hx489_0))
  clear hn489_0
  replace p489 := eq_true p489
  replace q489 := eq_true q489
  go_enter Try.func184, Try.ntmps184
  iterate 4 (go_wp2; try go_quiet (fail))
  go_ret
  exact ⟨zq1, zq3, zq6, zq2⟩
 obtain ⟨rfl, rfl, rfl⟩ := zt3 H
 obtain ⟨ASz5_0, cSz5_0, HGz5, hgz5, ⟨HSz5_0, HSKz5_0⟩⟩ := HI0.out
 have HSCz5_0 := zA HSKz5_0
 clear HSKz5_0
 have hcz5_0 := cellS170_0 HGz5
 have hcz5_1 := cellS170_1 HGz5
 have hcz5_2 := cellS170_2 HGz5
 have hfz5_1 := blk_frozen HGz5 1
 have hfz5_2 := blk_frozen HGz5 2
 clear HGz5 hgz5
 go_enter Try.func184, Try.ntmps184
 iterate 3 (go_wp2; try go_quiet (fail))
 go_ret
 exact ⟨zq1, zq3, zq6, zq2⟩

/-! ### spec_l1Below: function 131 -/
def spec_l1Below.f (s0_0 : List Int) (s0_1 : Int) (s0_2 : Int) (a1 : Int) : Option (Int × Int × Int) := if a1 ≤ 0 then (some (0, s0_1, s0_2)) else (if a1 ≤ 256 then ((spec_l1Byte.f s0_0 s0_1 s0_2).bind fun bt490 => (if a1 = 0 then (none) else (some (Int.tmod bt490.1 a1, bt490.2.1, bt490.2.2)))) else ((spec_l1Byte.f s0_0 s0_1 s0_2).bind fun bt493 => ((spec_l1Byte.f s0_0 bt493.2.1 bt493.2.2).bind fun bt496 => ((spec_l1Byte.f s0_0 bt496.2.1 bt496.2.2).bind fun bt499 => (if a1 = 0 then (none) else (some (Int.tmod (wrap64 ((wrap64 ((wrap64 (bt493.1 * 65536)) + (wrap64 (bt496.1 * 256)))) + bt499.1)) a1, bt499.2.1, bt499.2.2)))))))
theorem spec_l1Below.calls (g : Nat) (s0_0 : List Int) (s0_1 : Int) (s0_2 : Int) (a1 : Int) (r1 : Int) (r2 : Int) (r3 : Int) (w0 w : World) (hI : IsS170 w0 w g s0_0 s0_1 s0_2) (hB : Below w0.heap.size w0 w) (h : spec_l1Below.f s0_0 s0_1 s0_2 a1 = some (r1, r2, r3)) :
  Calls Try.prog 131 #[.pointer (some ⟨g, 0, none⟩), .int .i64 a1] w fun e w' => e = .returned (.int .i64 r1) ∧ IsS170 w0 w' g s0_0 r2 r3 ∧ Below w0.heap.size w0 w' ∧ KeepBut w w' g none := by
 have HI0 := zA hI
 have HK := zA (KeepBut.refl w g none)
 have HL := zA hB.size
 clear hI
 have HW0 := zA hB.size
 have HB := zA hB
 clear hB
 unfold spec_l1Below.f at h
 have H := zA h
 clear h
 go_enter Try.func131, Try.ntmps131
 go_upto_region 0 with fail
 go_upto_region 1 with fail
 replace H := zPd H; rcases H with ⟨c5b0, H⟩ | ⟨c5b0, H⟩
 ·go_upto_region 2 with fail
  obtain ⟨rfl, rfl, rfl⟩ := zt3 H
  go_wp2
  go_ret
  exact ⟨zq1, zq3, zq6, zq2⟩
 go_upto_region 3 with fail
 replace H := zPd H; rcases H with ⟨c8b0, H⟩ | ⟨c8b0, H⟩
 ·go_upto_region 4 with fail
  replace H := zB H; obtain ⟨⟨t490, t491, t492⟩, A10, H⟩ := H
  try dsimp only at H
  replace H := zM H; obtain ⟨c11, H⟩ := H
  have c11b0 : (a1 == 0) = false := beq_eq_false_iff_ne.mpr c11
  have c11b1 : (a1 != 0) = true := bne_iff_ne.mpr c11
  obtain ⟨rfl, rfl, rfl⟩ := zt3 H
  go_wp2_with (first | ((with_reducible refine zg184 rfl ?_); refine zl184 (some 13) #[.pointer (some ⟨g, 0, none⟩)] ?_; (with_reducible refine (spec_l1Byte.calls g s0_0 s0_1 s0_2 t490 t491 t492 w0 _ ?side1 ?side2 A10.out).mono ?_); (case side1 => exact zq3); (case side2 => exact zq6); rintro e w12 ⟨rfl, hi, hb, hk⟩; refine ⟨_, rfl, ?_⟩; replace HK := zA (KeepBut.trans zq2 hk (.inl rfl)); replace HB := zA (hb); replace HI0 := zA (hi); clear hb hk hi))
  go_ret
  exact ⟨zq1, zq3, zq6, zq2⟩
 go_upto_region 5 with fail
 replace H := zB H; obtain ⟨⟨t493, t494, t495⟩, A14, H⟩ := H
 try dsimp only at H
 go_upto_region 6 with (first | ((with_reducible refine zg184 rfl ?_); refine zl184 (some 17) #[.pointer (some ⟨g, 0, none⟩)] ?_; (with_reducible refine (spec_l1Byte.calls g s0_0 s0_1 s0_2 t493 t494 t495 w0 _ ?side1 ?side2 A14.out).mono ?_); (case side1 => exact zq3); (case side2 => exact zq6); rintro e w16 ⟨rfl, hi, hb, hk⟩; refine ⟨_, rfl, ?_⟩; replace HK := zA (KeepBut.trans zq2 hk (.inl rfl)); replace HB := zA (hb); replace HI0 := zA (hi); clear hb hk hi))
 (try simp only [zvs])
 replace H := zB H; obtain ⟨⟨t496, t497, t498⟩, A17, H⟩ := H
 try dsimp only at H
 go_upto_region 7 with (first | ((with_reducible refine zg184 rfl ?_); refine zl184 (some 19) #[.pointer (some ⟨g, 0, none⟩)] ?_; (with_reducible refine (spec_l1Byte.calls g s0_0 t494 t495 t496 t497 t498 w0 _ ?side1 ?side2 A17.out).mono ?_); (case side1 => exact zq3); (case side2 => exact zq6); rintro e w19 ⟨rfl, hi, hb, hk⟩; refine ⟨_, rfl, ?_⟩; replace HK := zA (KeepBut.trans zq2 hk (.inl rfl)); replace HB := zA (hb); replace HI0 := zA (hi); clear hb hk hi))
 (try simp only [zvs])
 replace H := zB H; obtain ⟨⟨t499, t500, t501⟩, A20, H⟩ := H
 try dsimp only at H
 go_upto_region 8 with (first | ((with_reducible refine zg184 rfl ?_); refine zl184 (some 21) #[.pointer (some ⟨g, 0, none⟩)] ?_; (with_reducible refine (spec_l1Byte.calls g s0_0 t497 t498 t499 t500 t501 w0 _ ?side1 ?side2 A20.out).mono ?_); (case side1 => exact zq3); (case side2 => exact zq6); rintro e w22 ⟨rfl, hi, hb, hk⟩; refine ⟨_, rfl, ?_⟩; replace HK := zA (KeepBut.trans zq2 hk (.inl rfl)); replace HB := zA (hb); replace HI0 := zA (hi); clear hb hk hi))
 (try simp only [zvs])
 replace H := zM H; obtain ⟨c23, H⟩ := H
 have c23b0 : (a1 == 0) = false := beq_eq_false_iff_ne.mpr c23
 have c23b1 : (a1 != 0) = true := bne_iff_ne.mpr c23
 obtain ⟨rfl, rfl, rfl⟩ := zt3 H
 go_wp2
 go_ret
 exact ⟨zq1, zq3, zq6, zq2⟩

/-! ### spec_l1Int: function 140 -/
def spec_l1Int.f (s0_0 : List Int) (s0_1 : Int) (s0_2 : Int) (l1 : List Int) : Option (Int × Int × Int) := (spec_l1Below.f s0_0 s0_1 s0_2 (l1.length : Int)).bind fun bt502 => (if 0 ≤ bt502.1 then (if bt502.1 < (l1.length : Int) then (some (rd l1 bt502.1, bt502.2.1, bt502.2.2)) else (none)) else (none))
theorem spec_l1Int.calls (g : Nat) (s0_0 : List Int) (s0_1 : Int) (s0_2 : Int) (A1 : Option Addr) (c1 : Nat) (l1 : List Int) (r1 : Int) (r2 : Int) (r3 : Int) (w0 w : World) (hI : IsS170 w0 w g s0_0 s0_1 s0_2) (hB : Below w0.heap.size w0 w) (hr1 : Kd.C (Kd.int .i64) w A1 l1.length l1) (hc1 : l1.length ≤ c1) (hf1 : ∀ ad, A1 = some ad → 0 < l1.length → ad.block ≠ g) (h : spec_l1Int.f s0_0 s0_1 s0_2 l1 = some (r1, r2, r3)) :
  Calls Try.prog 140 #[.pointer (some ⟨g, 0, none⟩), .slice A1 l1.length c1] w fun e w' => e = .returned (.int .i64 r1) ∧ IsS170 w0 w' g s0_0 r2 r3 ∧ Below w0.heap.size w0 w' ∧ KeepBut w w' g none := by
 have HR1 := zA hr1
 have HC1 := zA hc1
 clear hr1 hc1
 have HI0 := zA hI
 have HK := zA (KeepBut.refl w g none)
 have HL := zA hB.size
 clear hI
 have HW0 := zA hB.size
 have HB := zA hB
 clear hB
 unfold spec_l1Int.f at h
 have H := zA h
 clear h
 go_enter Try.func140, Try.ntmps140
 go_upto_region 0 with fail
 go_upto_region 1 with fail
 replace H := zB H; obtain ⟨⟨t502, t503, t504⟩, A5, H⟩ := H
 try dsimp only at H
 replace H := zNd H; obtain ⟨c6b0, H⟩ := H
 replace H := zNd H; obtain ⟨c7b0, H⟩ := H
 obtain ⟨rfl, rfl, rfl⟩ := zt3 H
 go_wp2_with (first | ((with_reducible refine zg131 rfl ?_); refine zl131 (some 9) #[.pointer (some ⟨g, 0, none⟩), .int .i64 (l1.length : Int)] ?_; (with_reducible refine (spec_l1Below.calls g s0_0 s0_1 s0_2 (l1.length : Int) t502 t503 t504 w0 _ ?side1 ?side2 A5.out).mono ?_); (case side1 => exact zq3); (case side2 => exact zq6); rintro e w8 ⟨rfl, hi, hb, hk⟩; refine ⟨_, rfl, ?_⟩; replace HK := zA (KeepBut.trans zq2 hk (.inl rfl)); replace HB := zA (hb); replace HI0 := zA (hi); clear hb hk hi; have p505 : 0 ≤ (t502 : Int) := of_decide_eq_true zq13; have q505 : t502 < (l1.length : Int) := of_decide_eq_true zq13; obtain ⟨ad505, e505, hx505_0⟩ := Kd.at_int HR1.out t502 p505 q505; cases e505; replace hx505_0 := keep_cell HK.out hx505_0 (by first | (rw [add_block]; exact hf1 _ rfl zq183) | exact hf1 _ rfl zq183 | exact hf1 ad505 rfl zq183); replace p505 := eq_true p505; replace q505 := eq_true q505))
 go_ret
 exact ⟨zq1, zq3, zq6, zq2⟩

/-! ### spec_l1Str: function 176 -/
def spec_l1Str.f (s0_0 : List Int) (s0_1 : Int) (s0_2 : Int) (l1 : List ByteArray) : Option (ByteArray × Int × Int) := (spec_l1Below.f s0_0 s0_1 s0_2 (l1.length : Int)).bind fun bt506 => (if 0 ≤ bt506.1 then (if bt506.1 < (l1.length : Int) then (some (rdOf ByteArray.empty l1 bt506.1, bt506.2.1, bt506.2.2)) else (none)) else (none))
theorem spec_l1Str.calls (g : Nat) (s0_0 : List Int) (s0_1 : Int) (s0_2 : Int) (A1 : Option Addr) (c1 : Nat) (l1 : List ByteArray) (r1 : ByteArray) (r2 : Int) (r3 : Int) (w0 w : World) (hI : IsS170 w0 w g s0_0 s0_1 s0_2) (hB : Below w0.heap.size w0 w) (hr1 : Kd.C Kd.string w A1 l1.length l1) (hc1 : l1.length ≤ c1) (hf1 : ∀ ad, A1 = some ad → 0 < l1.length → ad.block ≠ g) (h : spec_l1Str.f s0_0 s0_1 s0_2 l1 = some (r1, r2, r3)) :
  Calls Try.prog 176 #[.pointer (some ⟨g, 0, none⟩), .slice A1 l1.length c1] w fun e w' => e = .returned (.string r1) ∧ IsS170 w0 w' g s0_0 r2 r3 ∧ Below w0.heap.size w0 w' ∧ KeepBut w w' g none := by
 have HR1 := zA hr1
 have HC1 := zA hc1
 clear hr1 hc1
 have HI0 := zA hI
 have HK := zA (KeepBut.refl w g none)
 have HL := zA hB.size
 clear hI
 have HW0 := zA hB.size
 have HB := zA hB
 clear hB
 unfold spec_l1Str.f at h
 have H := zA h
 clear h
 go_enter Try.func176, Try.ntmps176
 go_upto_region 0 with fail
 go_upto_region 1 with fail
 replace H := zB H; obtain ⟨⟨t506, t507, t508⟩, A5, H⟩ := H
 try dsimp only at H
 replace H := zNd H; obtain ⟨c6b0, H⟩ := H
 replace H := zNd H; obtain ⟨c7b0, H⟩ := H
 obtain ⟨rfl, rfl, rfl⟩ := zt3 H
 go_wp2_with (first | ((with_reducible refine zg131 rfl ?_); refine zl131 (some 9) #[.pointer (some ⟨g, 0, none⟩), .int .i64 (l1.length : Int)] ?_; (with_reducible refine (spec_l1Below.calls g s0_0 s0_1 s0_2 (l1.length : Int) t506 t507 t508 w0 _ ?side1 ?side2 A5.out).mono ?_); (case side1 => exact zq3); (case side2 => exact zq6); rintro e w8 ⟨rfl, hi, hb, hk⟩; refine ⟨_, rfl, ?_⟩; replace HK := zA (KeepBut.trans zq2 hk (.inl rfl)); replace HB := zA (hb); replace HI0 := zA (hi); clear hb hk hi; have p509 : 0 ≤ (t506 : Int) := of_decide_eq_true zq13; have q509 : t506 < (l1.length : Int) := of_decide_eq_true zq13; obtain ⟨ad509, e509, hx509_0⟩ := Kd.at_string HR1.out t506 p509 q509; cases e509; replace hx509_0 := keep_cell HK.out hx509_0 (by first | (rw [add_block]; exact hf1 _ rfl zq183) | exact hf1 _ rfl zq183 | exact hf1 ad509 rfl zq183); replace p509 := eq_true p509; replace q509 := eq_true q509))
 go_ret
 exact ⟨zq1, zq3, zq6, zq2⟩

/-! ### spec_l2Draw: function 180 -/
def spec_l2Draw.l0 : Nat → List Int → Int → List Int → Int → Int → Option (List Int × Int × Int)
 | 0, _, _, _, _, _ => none
 | k + 1, x3, x4, x1000, x1001, x1002 => if x4 > 0 then ((spec_l1Int.f x1000 x1001 x1002 (([0, 1, 2, 3, 127, 128, 16384, 100000] : List Int))).bind fun bt519 => (if x3.length < 17592186044416 then (spec_l2Draw.l0 k (x3 ++ [bt519.1]) (wrap64 (x4 - 1)) x1000 bt519.2.1 bt519.2.2) else (none))) else (some (x3, x1001, x1002))
def spec_l2Draw.f (k : Nat) (s0_0 : List Int) (s0_1 : Int) (s0_2 : Int) : Option (List Int × Int × Int) := (spec_l1Below.f s0_0 s0_1 s0_2 6).bind fun bt513 => (spec_l2Draw.l0 k (([] : List Int)) (wrap64 (1 + bt513.1)) s0_0 bt513.2.1 bt513.2.2)
theorem spec_l2Draw.mono_l : ∀ k, (∀ y0 y1 y2 y3 y4, LeO (spec_l2Draw.l0 k y0 y1 y2 y3 y4) (spec_l2Draw.l0 (k + 1) y0 y1 y2 y3 y4))
 | 0 => fun _ _ _ _ _ r h => by simp [spec_l2Draw.l0] at h
 | k + 1 => by
  have ih0 := spec_l2Draw.mono_l k
  ·intro y0 y1 y2 y3 y4
   unfold spec_l2Draw.l0
   exact zR
theorem spec_l2Draw.mono : ∀ a0 a1 a2 k, LeO (spec_l2Draw.f k a0 a1 a2) (spec_l2Draw.f (k + 1) a0 a1 a2) := by
 intro a0 a1 a2 k
 have ih0 := spec_l2Draw.mono_l k
 unfold spec_l2Draw.f
 exact zR
theorem spec_l2Draw.calls (k : Nat) (g : Nat) (s0_0 : List Int) (s0_1 : Int) (s0_2 : Int) (r1 : List Int) (r2 : Int) (r3 : Int) (w0 w : World) (hI : IsS170 w0 w g s0_0 s0_1 s0_2) (hB : Below w0.heap.size w0 w) (h : spec_l2Draw.f k s0_0 s0_1 s0_2 = some (r1, r2, r3)) :
  Calls Try.prog 180 #[.pointer (some ⟨g, 0, none⟩)] w fun e w' => ∃ v0_ : Value, e = .returned (v0_) ∧ Kd.R (Kd.int .i64) 3 w' w.heap.size (fun _ => True) v0_ r1 ∧ IsS170 w0 w' g s0_0 r2 r3 ∧ Below w0.heap.size w0 w' ∧ KeepBut w w' g none := by
 have HI0 := zA hI
 have HK := zA (KeepBut.refl w g none)
 have HL := zA hB.size
 clear hI
 have HW0 := zA hB.size
 have HB := zA hB
 clear hB
 unfold spec_l2Draw.f at h
 have H := zA h
 clear h
 go_enter Try.func180, Try.ntmps180
 go_upto_region 0 with fail
 go_upto_region 1 with fail
 obtain ⟨y510, hy510⟩ : ∃ y_ : List Int, y_ = (([] : List Int)) := ⟨_, rfl⟩
 rw [← hy510] at H
 have Ny510 := zA hy510
 clear hy510
 go_upto_region 2 with (first | ((with_reducible refine gate_dst (N := 5) rfl ?_); refine Kd.R_lit (Kd.int .i64) _ 3 ?hg (N := 5) ?hd (xs := ([] : List Int)) (inner := []) (ok := fun _ => True) (okp := fun _ => True) ?hr ?hp (fun _ hk => hk) trivial (Below.refl _ _) (Nat.le_refl _) zq219 ?_; (case hd => rfl); (case hg => rfl); (case hr => exact zgs); (case hp => exact (Reps.none _ _)); intro v511 w5 ho6 hb hg_ hnew_; clear hg_ hnew_; (first | rw [← Ny510.out] at ho6 | (simp only [Int.reduceToNat] at ho6; rw [← Ny510.out] at ho6)); have HO512 := zA (Kd.R_lower ho6 (keep_size (w := w) (g := g) (row := none) zq2)); replace HK := zA (KeepBut.trans zq2 (KeepBut.of_below hb g none) (.inl rfl)); replace HB := zA (below_step zq6 hb); replace HI0 := zA (IsS170.below zq3 hb); clear hb ho6))
 (try simp only [zvs])
 replace H := zB H; obtain ⟨⟨t513, t514, t515⟩, A7, H⟩ := H
 try dsimp only at H
 have H' := H; clear H
 go_wp2_with (first | ((with_reducible refine zg131 rfl ?_); refine zl131 (some 7) #[.pointer (some ⟨g, 0, none⟩), .int .i64 6] ?_; (with_reducible refine (spec_l1Below.calls g s0_0 s0_1 s0_2 6 t513 t514 t515 w0 _ ?side1 ?side2 A7.out).mono ?_); (case side1 => exact zq3); (case side2 => exact zq6); rintro e w8 ⟨rfl, hi, hb, hk⟩; refine ⟨_, rfl, ?_⟩; replace HO512 := zA (Kd.R_mono (Kd.R_keep (IsS170.apart (show IsS170 w0 _ g s0_0 s0_1 s0_2 from zq3) (zrk HO512.out) zq52) hk (fun _ h => h.2)) (fun _ h => h.1)); replace HK := zA (KeepBut.trans zq2 hk (.inl rfl)); replace HB := zA (hb); replace HI0 := zA (hi); clear hb hk hi))
 go_loopg [3, 4] k (fun kq v3 v4 w' => ∃ (x3_1 : List Int) (x4_1 : Int) (x1001_1 : Int) (x1002_1 : Int), v4 = .int .i64 x4_1 ∧ Aside0 (spec_l2Draw.l0 kq x3_1 x4_1 s0_0 x1001_1 x1002_1 = some (r1, r2, r3)) ∧ Aside0 (kq ≤ k) ∧ Aside0 (Kd.R (Kd.int .i64) 3 w' w.heap.size (fun _ => True) v3 x3_1) ∧ Aside0 (IsS170 w0 w' g s0_0 x1001_1 x1002_1) ∧ Aside0 (KeepBut w w' g none) ∧ Aside0 (Below w0.heap.size w0 w'))
 case atStart => exact ⟨(y510), (wrap64 (1 + t513)), (t514), (t515), zq15, H', ⟨Nat.le_refl _⟩, ⟨(zrk HO512.out)⟩, ⟨zq3⟩, ⟨zq2⟩, ⟨zq6⟩⟩
 case round =>
  clear H'
  try clear c1
  try clear p2
  try clear p6
  obtain ⟨x3_1, x4_1, x1001_1, x1002_1, rfl, HA, HK1, HO_3, HI0, HK, HB⟩ := hrel
  cases gk with
  | zero => exact absurd HA.out (by simp [spec_l2Draw.l0])
  | succ k1 =>
   have H := HA
   clear HA
   simp only [spec_l2Draw.l0] at H
   go_upto_region 3 with fail
   replace H := zPd H; rcases H with ⟨c10b0, H⟩ | ⟨c10b0, H⟩
   ·go_upto_region 5 with fail
    obtain ⟨y516, hy516⟩ : ∃ y_ : List Int, y_ = (([0, 1, 2, 3, 127, 128, 16384, 100000] : List Int)) := ⟨_, rfl⟩
    rw [← hy516] at H
    have Ny516 := zA hy516
    clear hy516
    replace H := zB H; obtain ⟨⟨t519, t520, t521⟩, A12, H⟩ := H
    try dsimp only at H
    replace H := zN H; obtain ⟨c13, H⟩ := H
    have LMc13 := zA c13
    clear c13
    obtain ⟨y522, hy522⟩ : ∃ y_ : List Int, y_ = (x3_1 ++ [t519]) := ⟨_, rfl⟩
    rw [← hy522] at H
    have Ny522 := zA hy522
    clear hy522
    go_upto_region 4 with (first | ((with_reducible refine gate_dst (N := 15) rfl ?_); refine Kd.R_lit (Kd.int .i64) _ 3 ?hg (N := 15) ?hd (xs := ([0, 1, 2, 3, 127, 128, 16384, 100000] : List Int)) (inner := [.int .i64 0, .int .i64 1, .int .i64 2, .int .i64 3, .int .i64 127, .int .i64 128, .int .i64 16384, .int .i64 100000]) (ok := fun _ => True) (okp := fun _ => True) ?hr ?hp (fun _ hk => hk) trivial (Below.refl _ _) (Nat.le_refl _) zq219 ?_; (case hd => rfl); (case hg => rfl); (case hr => exact zgs); (case hp => exact (Reps.one (show Kd.M (Kd.int .i64) _ _ _ 0 [.int .i64 0] from rfl) (Reps.one (show Kd.M (Kd.int .i64) _ _ _ 1 [.int .i64 1] from rfl) (Reps.one (show Kd.M (Kd.int .i64) _ _ _ 2 [.int .i64 2] from rfl) (Reps.one (show Kd.M (Kd.int .i64) _ _ _ 3 [.int .i64 3] from rfl) (Reps.one (show Kd.M (Kd.int .i64) _ _ _ 127 [.int .i64 127] from rfl) (Reps.one (show Kd.M (Kd.int .i64) _ _ _ 128 [.int .i64 128] from rfl) (Reps.one (show Kd.M (Kd.int .i64) _ _ _ 16384 [.int .i64 16384] from rfl) (Reps.one (show Kd.M (Kd.int .i64) _ _ _ 100000 [.int .i64 100000] from rfl) (Reps.none _ _)))))))))); intro v517 w15 ho16 hb hg_ hnew_; clear hg_ hnew_; (first | rw [← Ny516.out] at ho16 | (simp only [Int.reduceToNat] at ho16; rw [← Ny516.out] at ho16)); have HO518 := zA (Kd.R_lower (Kd.R_new' ho16 (Kd.R_lt zq8)) (keep_size (w := w) (g := g) (row := none) zq2)); replace HO_3 := zA (Kd.R_elder' zq8 (Kd.R_base ho16) hb); replace HK := zA (KeepBut.trans zq2 (KeepBut.of_below hb g none) (.inl rfl)); replace HB := zA (below_step zq6 hb); replace HI0 := zA (IsS170.below zq3 hb); clear hb ho16; obtain ⟨Ao17, co17, eo17⟩ := Kd.R_slice HO518.out; subst eo17) | ((with_reducible refine zg140 rfl ?_); refine zl140 (some 16) #[.pointer (some ⟨g, 0, none⟩), .slice Ao17 y516.length co17] ?_; (with_reducible refine (spec_l1Int.calls g s0_0 x1001_1 x1002_1 _ _ y516 t519 t520 t521 w0 _ ?side1 ?side2 ?side3 ?side4 ?side5 A12.out).mono ?_); (case side1 => exact zq3); (case side2 => exact zq6); (case side3 => exact (zck (Kd.R_reads' HO518.out).2.2)); (case side4 => exact (Kd.R_reads' HO518.out).2.1); (case side5 => exact far_slice (IsS170.own_ne HI0.out HO518.out zq52)); rintro e w18 ⟨rfl, hi, hb, hk⟩; refine ⟨_, rfl, ?_⟩; replace HO_3 := zA (Kd.R_mono (Kd.R_keep (IsS170.apart (show IsS170 w0 _ g s0_0 x1001_1 x1002_1 from zq3) zq8 zq52) hk (fun _ h => h.2)) (fun _ h => h.1)); replace HO518 := zA (Kd.R_mono (Kd.R_keep (IsS170.apart (show IsS170 w0 _ g s0_0 x1001_1 x1002_1 from zq3) (zrk HO518.out) zq52) hk (fun _ h => h.2)) (fun _ h => h.1)); replace HK := zA (KeepBut.trans zq2 hk (.inl rfl)); replace HB := zA (hb); replace HI0 := zA (hi); clear hb hk hi) | ((with_reducible refine gate_builtin (b := .append) (xs := #[.tmp 13, .tmp 17]) rfl ?_); at_builtin; refine Kd.R_append (Kd.int .i64) w.heap.size rfl (.tmp 13) (.tmp 17) 71 3 (.int .i64 0) 8 rfl Try.underlying71 info3 rfl zq52 zq183 u3 x3_1 t519 [.int .i64 t519] (fun k_ => some k_ ≠ (.slice Ao17 y516.length co17 : Value).ownBlock) (fun _ => False) rfl rfl ?aP (fun _ hk => hk.elim) ?aF ?aO (Below.refl _ _) ?aS ?aL ?_; (case aP => exact rfl); (case aF => exact (fun k_ hk => Kd.fresh' (Kd.R_lt (zrk HO518.out)) k_ hk)); (case aO => exact zq266); (case aS => exact (keep_size (w := w) (g := g) (row := none) zq2)); (case aL => have := LMc13.out; omega); intro v523 w19 ho hb hg hat; rw [← Ny522.out] at ho; replace HO518 := zA (Kd.R_after (ok := (fun _ => True)) (zrk HO518.out) hg hat); replace HB := zA (below_weaken zq6 HL.out hb); replace HI0 := zA (IsS170.grown zq3 hg (IsS170.own_ne HI0.out HO_3.out zq52)); replace HK := zA (KeepBut.trans zq2 (KeepBut.of_grown hg g) (Kd.R_base2 HO_3.out)); have HO524 := zA (ho); clear HO_3; clear ho hb hg hat))
    (try simp only [zvs])
    (try (rw [drewN_self w19]; generalize hq_ : World.drewN w19 _ = w19; replace HO518 := zA (Kd.R_at hq_ HO518.out); replace HO524 := zA (Kd.R_at hq_ HO524.out); replace HI0 := zA (IsS170.at_ hq_ HI0.out); replace HK := zA (keep_at hq_ HK.out); replace HB := zA (below_at hq_ HB.out); clear hq_))
    have H' := H; clear H
    go_wp2
    go_roundg k1
    case measure => have := HK1.out; omega
    case rel => exact ⟨(y522), (wrap64 (x4_1 - 1)), (t520), (t521), zq15, H', ⟨zq182⟩, ⟨(by (with_reducible repeat (first | apply Kd.R_alloc | apply Kd.R_drewN | apply Kd.R_drew)); exact Kd.R_mono HO524.out (fun _ hk => trivial))⟩, ⟨zq3⟩, ⟨zq2⟩, ⟨zq6⟩⟩
   go_upto_region 6 with fail
   obtain ⟨rfl, rfl, rfl⟩ := zt3 H
   go_wp2
   go_ret
   exact ⟨_, zq1, zq8, zq3, zq6, zq2⟩

end Go.Proofs.Ytkcgghgkmgbphaa.PFnMsgs
