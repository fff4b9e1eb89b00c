-- WRITTEN BY a turned copy of the kit's printer (wip/patch_print.py), for this claim
import Derived.Test.YtkcgghgkmgbphaaPFnMsgsx0
import Derived.Test.YtkcgghgkmgbphaaPFnMsgsx5
import Derived.Test.YtkcgghgkmgbphaaPFnMsgsx6
import Derived.Test.YtkcgghgkmgbphaaPFnMsgsx7
namespace Go.Proofs.Ytkcgghgkmgbphaa.PFnMsgs
open Go.RowKit Go.Proofs.YtkcgghgkmgbphaaW.PrintWords Go.Proofs.YtkcgghgkmgbphaaW.PrintLast Go.Proofs.YtkcgghgkmgbphaaW.PrintMore
attribute [local go_sem] max2_int min2_int max_two min_two max_three min_three max_four min_four   -- for this text's walks alone
set_option linter.unusedVariables false
set_option linter.unusedSimpArgs false
set_option maxHeartbeats 8000000
set_option maxRecDepth 100000

attribute [local go_sem] cell_setCell_m
/-! ### spec_l4Body: function 125 -/
def spec_l4Body.f (k : Nat) (a0_0 : Int) (a0_1 : Int) (a0_2 : Int) (a0_3 : Int) (l0_4 : List (S116)) : Option (List Int × Bool) := (spec_l4Binds.f k l0_4).bind fun t246 => (if (t246.length : Int) > 250 then (some ((([] : List Int)), false)) else ((spec_PutInt.f k a0_1).bind fun t255 => ((spec_PutTlv.f k (([] : List Int)) 2 t255).bind fun t258 => ((spec_PutInt.f k a0_2).bind fun t261 => ((spec_PutTlv.f k t258 2 t261).bind fun t264 => ((spec_PutInt.f k a0_3).bind fun t267 => ((spec_PutTlv.f k t264 2 t267).bind fun t270 => ((spec_PutTlv.f k t270 48 t246).bind fun t273 => (some (t273, decide ((t273.length : Int) ≤ 250)))))))))))
theorem spec_l4Body.mono : ∀ a0 a1 a2 a3 a4 k, LeO (spec_l4Body.f k a0 a1 a2 a3 a4) (spec_l4Body.f (k + 1) a0 a1 a2 a3 a4) := by
 intro a0 a1 a2 a3 a4 k
 unfold spec_l4Body.f
 have m0_ := @spec_PutInt.mono
 have m1_ := @spec_PutTlv.mono
 have m2_ := @spec_l4Binds.mono
 exact zR
def spec_l4Body.T4 : Bool × List (List Nat × List Nat) := (true, [([], []), ([], []), ([1], [1]), ([2], [2]), ([0, 3, 3], [0, 3]), ([], []), ([5], [5]), ([6, 4], [6]), ([4, 7, 7], [4, 7]), ([], []), ([9], [9]), ([10, 8], [10]), ([8, 11, 11], [8, 11]), ([12, 12, 0, 1, 2, 3, 4, 5, 6, 7, 8, 9, 10, 11, 12], [12])])
def spec_l4Body.B4 : List Nat := [0, 0, 2, 6, 15, 0, 32, 127, 255, 0, 512, 2047, 4095, 8191]
theorem spec_l4Body.tab4 : rtab .any (opsOf Try.f125 4) = spec_l4Body.T4 := by kernel_rfl
theorem spec_l4Body.bits4 : waitsOk spec_l4Body.T4.2 spec_l4Body.B4 = true := by kernel_rfl
theorem spec_l4Body.calls (k : Nat) (a0_0 : Int) (a0_1 : Int) (a0_2 : Int) (a0_3 : Int) (A0_4 : Option Addr) (c0_4 : Nat) (l0_4 : List (S116)) (r1 : List Int) (r2 : Bool) (w : World) (hr0_4 : Kd.C k116 w A0_4 l0_4.length l0_4) (hc0_4 : l0_4.length ≤ c0_4) (h : spec_l4Body.f k a0_0 a0_1 a0_2 a0_3 l0_4 = some (r1, r2)) :
  Calls Try.prog 125 #[.agg #[.int .i64 a0_0, .int .i64 a0_1, .int .i64 a0_2, .int .i64 a0_3, .slice A0_4 l0_4.length c0_4]] w fun e w' => ∃ v0_ : Value, e = .returned (.tuple #[v0_, .bool r2]) ∧ Kd.R (Kd.int .u8) 5 w' w.heap.size (fun _ => True) v0_ r1 ∧ Below w.heap.size w w' := by
 have hu26 := Try.underlying26
 have HR0_4 := zA hr0_4
 have HC0_4 := zA hc0_4
 clear hr0_4 hc0_4
 have HB := zA (Below.refl w.heap.size w)
 unfold spec_l4Body.f at h
 have H := zA h
 clear h
 go_enter Try.func125, Try.ntmps125
 go_upto_region 0 with fail
 go_upto_region 1 with (first | ((with_reducible refine gate_dst (N := 1) rfl ?_); refine box_event ?hg (N := 1) ?hd (cs := #[.int .i64 a0_0, .int .i64 a0_1, .int .i64 a0_2, .int .i64 a0_3, .slice A0_4 l0_4.length c0_4]) (t := 26) ?hr ?_; (case hd => rfl); (case hg => rfl); (case hr => exact zgs); intro gb245 hg w4 hbox hb; have BK245 := zA (hbox); have GW245 := zA ((zq5 : w.heap.size ≤ gb245)); have GE245 := zA ((zq5 : w.heap.size ≤ gb245)); replace HB := zA (below_step zq0 hb); clear hb hbox hg))
 (try simp only [zvs])
 replace H := zB H; obtain ⟨t246, A5, H⟩ := H
 try dsimp only at H
 have hz7 := zc5 BK245.out
 go_upto_region 2 with (first | ((with_reducible refine zg183 rfl ?_); refine zl183 (some 8) #[.slice A0_4 l0_4.length c0_4] ?_; (with_reducible refine (spec_l4Binds.calls k _ _ l0_4 t246 _ ?side1 ?side2 A5.out).mono ?_); (case side1 => exact zq102); (case side2 => exact HC0_4.out); rintro e w8 ⟨v247, rfl, ho0, hb⟩; refine ⟨_, rfl, ?_⟩; have HO248 := zA (Kd.R_lower ho0 (below_size zq0)); replace BK245 := zA (zbb BK245.out hb); replace HB := zA (below_step zq0 hb); clear hb ho0))
 (try simp only [zvs])
 (try (rw [drewN_self w8]; generalize hq_ : World.drewN w8 _ = w8; replace HO248 := zA (Kd.R_at hq_ HO248.out); replace BK245 := zA (blk_at hq_ BK245.out); replace HB := zA (below_at hq_ HB.out); clear hq_))
 replace H := zP H; rcases H with ⟨c9, H⟩ | ⟨c9, H⟩
 ·have c9b0 : decide (250 < (t246.length : Int)) = true := decide_eq_true c9
  have c9b1 : decide (250 < t246.length) = true := decide_eq_true zq183
  clear c9
  obtain ⟨Ao11, co11, eo11⟩ := Kd.R_slice HO248.out
  subst eo11
  go_upto_region 3 with fail
  obtain ⟨y249, hy249⟩ : ∃ y_ : List Int, y_ = (([] : List Int)) := ⟨_, rfl⟩
  rw [← hy249] at H
  have Ny249 := zA hy249
  clear hy249
  obtain ⟨rfl, rfl⟩ := zt2 H
  go_wp2_with (first | ((with_reducible refine gate_dst (N := 12) rfl ?_); refine Kd.R_lit (Kd.int .u8) _ 5 ?hg (N := 12) ?hd (xs := ([] : List Int)) (inner := []) (ok := fun _ => True) (okp := fun _ => True) ?hr ?hp (fun _ hk => hk) trivial (Below.refl _ _) (Nat.le_refl _) zq219 ?_; (case hd => rfl); (case hg => rfl); (case hr => exact zgs); (case hp => exact (Reps.none _ _)); intro v250 w12 ho13 hb hg_ hnew_; clear hg_ hnew_; (first | rw [← Ny249.out] at ho13 | (simp only [Int.reduceToNat] at ho13; rw [← Ny249.out] at ho13)); have HO251 := zA (Kd.R_lower (Kd.R_new' ho13 (Kd.R_lt zq53)) (below_size zq0)); replace HO248 := zA (Kd.R_elder' zq53 (Kd.R_base ho13) hb); replace BK245 := zA (zbb BK245.out hb); replace HB := zA (below_step zq0 hb); clear hb ho13))
  go_ret2
  exact ⟨_, zq1, (by (with_reducible repeat (first | apply Kd.R_alloc | apply Kd.R_drewN | apply Kd.R_drew)); exact Kd.R_mono HO251.out (fun _ hk => trivial)), zq0⟩
 have c9b0 : decide (250 < (t246.length : Int)) = false := decide_eq_false c9
 have c9b1 : decide (250 < t246.length) = false := decide_eq_false zq183
 clear c9
 obtain ⟨Ao15, co15, eo15⟩ := Kd.R_slice HO248.out
 subst eo15
 go_upto_region 4 with fail
 obtain ⟨y252, hy252⟩ : ∃ y_ : List Int, y_ = (([] : List Int)) := ⟨_, rfl⟩
 rw [← hy252] at H
 have Ny252 := zA hy252
 clear hy252
 replace H := zB H; obtain ⟨t255, A16, H⟩ := H
 try dsimp only at H
 replace H := zB H; obtain ⟨t258, A17, H⟩ := H
 try dsimp only at H
 replace H := zB H; obtain ⟨t261, A18, H⟩ := H
 try dsimp only at H
 replace H := zB H; obtain ⟨t264, A19, H⟩ := H
 try dsimp only at H
 replace H := zB H; obtain ⟨t267, A20, H⟩ := H
 try dsimp only at H
 replace H := zB H; obtain ⟨t270, A21, H⟩ := H
 try dsimp only at H
 try go_wp2
 replace HO248 := zA (Kd.R_drew HO248.out)
 replace BK245 := zA (blk_drew BK245.out)
 replace HB := zA (below_drew1 HB.out)
 refine start_ (n := 14) (S := fun w' => w'.cell? ⟨gb245, 0, none⟩ = some (.int .i64 a0_0) ∧ w'.cell? ⟨gb245, 1, none⟩ = some (.int .i64 a0_1) ∧ w'.cell? ⟨gb245, 2, none⟩ = some (.int .i64 a0_2) ∧ w'.cell? ⟨gb245, 3, none⟩ = some (.int .i64 a0_3) ∧ w'.cell? ⟨gb245, 4, none⟩ = some (.slice A0_4 l0_4.length c0_4)) (ds := []) (zv 14 0) (by kernel_rfl) rfl rfl (zd5 BK245.out) (fun hHeld => ?_); refine with_tabW spec_l4Body.tab4 spec_l4Body.bits4 (fun HT_ HW_ => ?_)
 generalize w8.drew = w23 at HO248 BK245 HB hHeld ⊢
 refine zyt 1 14 (zv 14 2) ?_
 refine zyt 5 18 (zv 14 34) ?_
 refine zyt 9 22 (zv 14 546) ?_
 refine take_ (i := 2) (N := some 15) (v := ?_) (a' := ?_) (zv 14 550) rfl rfl (take_ofW HT_.out HW_.out (by kernel_rfl)) (fun _ _ _ h => h) (Or.inl ⟨zq94, ?_⟩) hHeld ?_ ?_
 rotate_left
 ·rintro w' ⟨s0, s1, s2, s3, s4⟩
  go_simp
  with_reducible rfl
 rotate_left
 ·simp only [zvs, i64_w, i32_w]
  rfl
 refine take_ (i := 6) (N := some 19) (v := ?_) (a' := ?_) (zv 14 614) rfl rfl (take_ofW HT_.out HW_.out (by kernel_rfl)) (fun _ _ _ h => h) (Or.inl ⟨zq94, ?_⟩) hHeld ?_ ?_
 rotate_left
 ·rintro w' ⟨s0, s1, s2, s3, s4⟩
  go_simp
  with_reducible rfl
 rotate_left
 ·simp only [zvs, i64_w, i32_w]
  rfl
 refine take_ (i := 10) (N := some 23) (v := ?_) (a' := ?_) (zv 14 1638) rfl rfl (take_ofW HT_.out HW_.out (by kernel_rfl)) (fun _ _ _ h => h) (Or.inl ⟨zq94, ?_⟩) hHeld ?_ ?_
 rotate_left
 ·rintro w' ⟨s0, s1, s2, s3, s4⟩
  go_simp
  with_reducible rfl
 rotate_left
 ·simp only [zvs, i64_w, i32_w]
  rfl
 refine join_ (σ := Value × Value) 6 (zv 14 1647) (fun s_ => [(13, s_.1), (16, s_.2)]) (fun s_ w' => (w'.cell? ⟨gb245, 0, none⟩ = some (.int .i64 a0_0) ∧ w'.cell? ⟨gb245, 1, none⟩ = some (.int .i64 a0_1) ∧ w'.cell? ⟨gb245, 2, none⟩ = some (.int .i64 a0_2) ∧ w'.cell? ⟨gb245, 3, none⟩ = some (.int .i64 a0_3) ∧ w'.cell? ⟨gb245, 4, none⟩ = some (.slice A0_4 l0_4.length c0_4)) ∧ (Kd.R (Kd.int .u8) 5 w' w.heap.size (fun k_ => some k_ ≠ (s_.1 : Value).ownBlock ∧ some k_ ≠ (s_.2 : Value).ownBlock) (.slice Ao15 t246.length co15) t246) ∧ (Kd.R (Kd.int .u8) 5 w' w.heap.size (fun k_ => some k_ ≠ (.slice Ao15 t246.length co15 : Value).ownBlock ∧ some k_ ≠ (s_.2 : Value).ownBlock) s_.1 y252) ∧ (Kd.R (Kd.int .u8) 5 w' w.heap.size (fun k_ => some k_ ≠ (.slice Ao15 t246.length co15 : Value).ownBlock ∧ some k_ ≠ (s_.1 : Value).ownBlock) s_.2 t255) ∧ (w'.heap[gb245]? = some (.cells #[.int .i64 a0_0, .int .i64 a0_1, .int .i64 a0_2, .int .i64 a0_3, .slice A0_4 l0_4.length c0_4] 26 (0, 0))) ∧ (Below w.heap.size w w')) ?_ ?_
 rotate_left
 ·intro hCont
  refine two_ (i := 0) (j := 3) (Ni := some 13) (Nj := some 16) (zv 14 1639) (zv 14 1646) rfl rfl rfl rfl (two_of HT_.out (by kernel_rfl)) zq52 zq52 (fun K hK => ?_) (fun K hK => ?_)
  ·skip
   refine Kd.R_lit_step (Kd.int .u8) _ 5 ?hg (N := 13) ?hd (xs := ([] : List Int)) (inner := []) (ok := fun _ => True) (okp := fun _ => True) ?hr ?hp (fun _ hk => hk) trivial (Below.refl _ _) (Nat.le_refl _) zq219 ?_; (case hd => rfl); (case hg => rfl); (case hr => exact zgs); (case hp => exact (Reps.none _ _))
   intro v253 w24 ho25 hb hg_ hnew_
   clear hg_ hnew_
   (first | rw [← Ny252.out] at ho25 | (simp only [Int.reduceToNat] at ho25; rw [← Ny252.out] at ho25))
   have HO254 := zA (Kd.R_lower (Kd.R_new' ho25 (Kd.R_lt zq53)) (below_size zq0))
   replace HO248 := zA (Kd.R_elder' zq53 (Kd.R_base ho25) hb)
   replace BK245 := zA (zbb BK245.out hb)
   replace HB := zA (below_step zq0 hb)
   clear hb ho25
   refine hK.out _ _ (zd5 BK245.out) (fun hHeld => ?_)
   clear hK K
   refine norm_ (a' := ?_) ?_ ?_
   rotate_left
   ·show Act.put _ (some 13) _ = _
    simp only [zvs, i64_w, i32_w]
    rfl
   refine one_ (i := 3) (N := some 16) (zv 14 1647) rfl rfl (one_of HT_.out (by kernel_rfl)) zq52 (fun K hK => ?_)
   refine goes_ Try.func152 (by kernel_rfl) rfl #[.int .i64 a0_1] zq94 rfl rfl zq20 ?_
   with_reducible refine (spec_PutInt.calls k a0_1 t255 _ A16.out).mono ?_
   rintro e w26 ⟨v256, rfl, ho0, hb⟩
   refine ⟨_, rfl, ?_⟩
   have HO257 := zA (Kd.R_lower (Kd.R_new' (Kd.R_new' ho0 (Kd.R_lt zq53)) (Kd.R_lt zq82)) (below_size zq0))
   replace HO248 := zA (Kd.R_elder' zq53 (Kd.R_base ho0) hb)
   replace HO254 := zA (Kd.R_elder' zq82 (Kd.R_base ho0) hb)
   replace BK245 := zA (zbb BK245.out hb)
   replace HB := zA (below_step zq0 hb)
   (try clear hb)
   (try clear hb2)
   (try clear hk)
   (try clear hi)
   (try clear ho0)
   refine hK.out _ _ (zd5 BK245.out) (fun hHeld => ?_)
   clear hK K
   refine norm_ (a' := ?_) ?_ ?_
   rotate_left
   ·show Act.put _ (some 16) _ = _
    simp only [zvs, i64_w, i32_w]
    rfl
   exact norm_ zq218 (hCont (v253, v256) _ ⟨hHeld, (by (with_reducible repeat (first | apply Kd.R_alloc | apply Kd.R_drewN | apply Kd.R_drew)); exact Kd.R_mono HO248.out (fun _ hk => ⟨hk.1.2, hk.2⟩)), zq264, zq265, (zbk BK245.out), zq0⟩)
  ·skip
   refine goes_ Try.func152 (by kernel_rfl) rfl #[.int .i64 a0_1] zq94 rfl rfl zq20 ?_
   with_reducible refine (spec_PutInt.calls k a0_1 t255 _ A16.out).mono ?_
   rintro e w24 ⟨v256, rfl, ho0, hb⟩
   refine ⟨_, rfl, ?_⟩
   have HO257 := zA (Kd.R_lower (Kd.R_new' ho0 (Kd.R_lt zq53)) (below_size zq0))
   replace HO248 := zA (Kd.R_elder' zq53 (Kd.R_base ho0) hb)
   replace BK245 := zA (zbb BK245.out hb)
   replace HB := zA (below_step zq0 hb)
   (try clear hb)
   (try clear hb2)
   (try clear hk)
   (try clear hi)
   (try clear ho0)
   refine hK.out _ _ (zd5 BK245.out) (fun hHeld => ?_)
   clear hK K
   refine norm_ (a' := ?_) ?_ ?_
   rotate_left
   ·show Act.put _ (some 16) _ = _
    simp only [zvs, i64_w, i32_w]
    rfl
   refine one_ (i := 0) (N := some 13) (zv 14 1647) rfl rfl (one_of HT_.out (by kernel_rfl)) zq52 (fun K hK => ?_)
   refine Kd.R_lit_step (Kd.int .u8) _ 5 ?hg (N := 13) ?hd (xs := ([] : List Int)) (inner := []) (ok := fun _ => True) (okp := fun _ => True) ?hr ?hp (fun _ hk => hk) trivial (Below.refl _ _) (Nat.le_refl _) zq219 ?_; (case hd => rfl); (case hg => rfl); (case hr => exact zgs); (case hp => exact (Reps.none _ _))
   intro v253 w25 ho26 hb hg_ hnew_
   clear hg_ hnew_
   (first | rw [← Ny252.out] at ho26 | (simp only [Int.reduceToNat] at ho26; rw [← Ny252.out] at ho26))
   have HO254 := zA (Kd.R_lower (Kd.R_new' (Kd.R_new' ho26 (Kd.R_lt zq53)) (Kd.R_lt zq83)) (below_size zq0))
   replace HO248 := zA (Kd.R_elder' zq53 (Kd.R_base ho26) hb)
   replace HO257 := zA (Kd.R_elder' zq83 (Kd.R_base ho26) hb)
   replace BK245 := zA (zbb BK245.out hb)
   replace HB := zA (below_step zq0 hb)
   clear hb ho26
   refine hK.out _ _ (zd5 BK245.out) (fun hHeld => ?_)
   clear hK K
   refine norm_ (a' := ?_) ?_ ?_
   rotate_left
   ·show Act.put _ (some 13) _ = _
    simp only [zvs, i64_w, i32_w]
    rfl
   exact norm_ zq218 (hCont (v253, v256) _ ⟨hHeld, (by (with_reducible repeat (first | apply Kd.R_alloc | apply Kd.R_drewN | apply Kd.R_drew)); exact Kd.R_mono HO248.out (fun _ hk => ⟨hk.2, hk.1.2⟩)), zq264, zq265, (zbk BK245.out), zq0⟩)
 rintro ⟨v253, v256⟩ w27 ⟨hS_, h0_, h1_, h2_, h3_, h4_⟩
 have n0_ : Aside0 (Kd.R (Kd.int .u8) 5 w27 w.heap.size (fun k_ => some k_ ≠ (v253 : Value).ownBlock ∧ some k_ ≠ (v256 : Value).ownBlock) (.slice Ao15 t246.length co15) t246) := ⟨h0_⟩
 have n1_ : Aside0 (Kd.R (Kd.int .u8) 5 w27 w.heap.size (fun k_ => some k_ ≠ (.slice Ao15 t246.length co15 : Value).ownBlock ∧ some k_ ≠ (v256 : Value).ownBlock) v253 y252) := ⟨h1_⟩
 have n2_ : Aside0 (Kd.R (Kd.int .u8) 5 w27 w.heap.size (fun k_ => some k_ ≠ (.slice Ao15 t246.length co15 : Value).ownBlock ∧ some k_ ≠ (v253 : Value).ownBlock) v256 t255) := ⟨h2_⟩
 have n3_ : Aside0 (w27.heap[gb245]? = some (.cells #[.int .i64 a0_0, .int .i64 a0_1, .int .i64 a0_2, .int .i64 a0_3, .slice A0_4 l0_4.length c0_4] 26 (0, 0))) := ⟨h3_⟩
 have n4_ : Aside0 (Below w.heap.size w w27) := ⟨h4_⟩
 clear HO248
 clear BK245
 clear HB
 clear h0_ h1_ h2_ h3_ h4_
 have HO248 := n0_
 have HO254 := n1_
 have HO257 := n2_
 have BK245 := n3_
 have HB := n4_
 clear n0_ n1_ n2_ n3_ n4_
 have hHeld : w27.cell? ⟨gb245, 0, none⟩ = some (.int .i64 a0_0) ∧ w27.cell? ⟨gb245, 1, none⟩ = some (.int .i64 a0_1) ∧ w27.cell? ⟨gb245, 2, none⟩ = some (.int .i64 a0_2) ∧ w27.cell? ⟨gb245, 3, none⟩ = some (.int .i64 a0_3) ∧ w27.cell? ⟨gb245, 4, none⟩ = some (.slice A0_4 l0_4.length c0_4) := hS_
 obtain ⟨Ao28, co28, eo28⟩ := Kd.R_slice HO254.out
 (first | subst eo28 | (injection eo28 with f1_ f2_ f3_; have f4_ := f1_.symm; have f5_ := f3_.symm; clear f1_ f2_ f3_; subst f4_; subst f5_))
 obtain ⟨Ao29, co29, eo29⟩ := Kd.R_slice HO257.out
 (first | subst eo29 | (injection eo29 with f1_ f2_ f3_; have f4_ := f1_.symm; have f5_ := f3_.symm; clear f1_ f2_ f3_; subst f4_; subst f5_))
 refine norm_ (a' := ?_) ?_ ?_
 rotate_left
 ·simp only [putAll, Act.put, List.setIfInBounds_toArray, List.set_cons_zero, List.set_cons_succ]
  rfl
 refine one_ (i := 4) (N := some 17) (zv 14 1663) rfl rfl (one_of HT_.out (by kernel_rfl)) zq52 (fun K hK => ?_)
 refine goes_ Try.func126 (by kernel_rfl) rfl #[.slice Ao28 y252.length co28, .int .i64 2, .slice Ao29 t255.length co29] zq94 rfl rfl zq20 ?_
 with_reducible refine (spec_PutTlv.calls k _ _ y252 2 _ _ t255 t258 _ ?side1 ?side2 ?side3 ?side4 A17.out).mono ?_
 (case side1 => exact (zck (Kd.R_reads' HO254.out).2.2))
 (case side2 => exact (Kd.R_reads' HO254.out).2.1)
 (case side3 => exact (zck (Kd.R_reads' HO257.out).2.2))
 (case side4 => exact (Kd.R_reads' HO257.out).2.1)
 rintro e w30 ⟨v259, rfl, ho0, hb⟩
 refine ⟨_, rfl, ?_⟩
 have HO260 := zA (Kd.R_lower (Kd.R_new' (Kd.R_new' (Kd.R_new' ho0 (Kd.R_lt zq53)) (Kd.R_lt zq82)) (Kd.R_lt zq83)) (below_size zq0))
 replace HO248 := zA (Kd.R_elder' zq53 (Kd.R_base ho0) hb)
 replace HO254 := zA (Kd.R_elder' zq82 (Kd.R_base ho0) hb)
 replace HO257 := zA (Kd.R_elder' zq83 (Kd.R_base ho0) hb)
 replace BK245 := zA (zbb BK245.out hb)
 replace HB := zA (below_step zq0 hb)
 (try clear hb)
 (try clear hb2)
 (try clear hk)
 (try clear hi)
 (try clear ho0)
 refine hK.out _ _ (zd5 BK245.out) (fun hHeld => ?_)
 clear hK K
 refine norm_ (a' := ?_) ?_ ?_
 rotate_left
 ·show Act.put _ (some 17) _ = _
  simp only [zvs, i64_w, i32_w]
  rfl
 refine one_ (i := 7) (N := some 20) (zv 14 1791) rfl rfl (one_of HT_.out (by kernel_rfl)) zq52 (fun K hK => ?_)
 refine goes_ Try.func152 (by kernel_rfl) rfl #[.int .i64 a0_2] zq94 rfl rfl zq20 ?_
 with_reducible refine (spec_PutInt.calls k a0_2 t261 _ A18.out).mono ?_
 rintro e w31 ⟨v262, rfl, ho0, hb⟩
 refine ⟨_, rfl, ?_⟩
 have HO263 := zA (Kd.R_lower (Kd.R_new' (Kd.R_new' (Kd.R_new' (Kd.R_new' ho0 (Kd.R_lt zq53)) (Kd.R_lt zq82)) (Kd.R_lt zq83)) (Kd.R_lt (zrk HO260.out))) (below_size zq0))
 replace HO248 := zA (Kd.R_elder' zq53 (Kd.R_base ho0) hb)
 replace HO254 := zA (Kd.R_elder' zq82 (Kd.R_base ho0) hb)
 replace HO257 := zA (Kd.R_elder' zq83 (Kd.R_base ho0) hb)
 replace HO260 := zA (Kd.R_elder' (zrk HO260.out) (Kd.R_base ho0) hb)
 replace BK245 := zA (zbb BK245.out hb)
 replace HB := zA (below_step zq0 hb)
 (try clear hb)
 (try clear hb2)
 (try clear hk)
 (try clear hi)
 (try clear ho0)
 obtain ⟨Ao32, co32, eo32⟩ := Kd.R_slice HO260.out
 (first | subst eo32 | (injection eo32 with f1_ f2_ f3_; have f4_ := f1_.symm; have f5_ := f3_.symm; clear f1_ f2_ f3_; subst f4_; subst f5_))
 obtain ⟨Ao33, co33, eo33⟩ := Kd.R_slice HO263.out
 (first | subst eo33 | (injection eo33 with f1_ f2_ f3_; have f4_ := f1_.symm; have f5_ := f3_.symm; clear f1_ f2_ f3_; subst f4_; subst f5_))
 refine hK.out _ _ (zd5 BK245.out) (fun hHeld => ?_)
 clear hK K
 refine norm_ (a' := ?_) ?_ ?_
 rotate_left
 ·show Act.put _ (some 20) _ = _
  simp only [zvs, i64_w, i32_w]
  rfl
 refine one_ (i := 8) (N := some 21) (zv 14 2047) rfl rfl (one_of HT_.out (by kernel_rfl)) zq52 (fun K hK => ?_)
 refine goes_ Try.func126 (by kernel_rfl) rfl #[.slice Ao32 t258.length co32, .int .i64 2, .slice Ao33 t261.length co33] zq94 rfl rfl zq20 ?_
 with_reducible refine (spec_PutTlv.calls k _ _ t258 2 _ _ t261 t264 _ ?side1 ?side2 ?side3 ?side4 A19.out).mono ?_
 (case side1 => exact (zck (Kd.R_reads' HO260.out).2.2))
 (case side2 => exact (Kd.R_reads' HO260.out).2.1)
 (case side3 => exact (zck (Kd.R_reads' HO263.out).2.2))
 (case side4 => exact (Kd.R_reads' HO263.out).2.1)
 rintro e w34 ⟨v265, rfl, ho0, hb⟩
 refine ⟨_, rfl, ?_⟩
 have HO266 := zA (Kd.R_lower (Kd.R_new' (Kd.R_new' (Kd.R_new' (Kd.R_new' (Kd.R_new' ho0 (Kd.R_lt zq53)) (Kd.R_lt zq82)) (Kd.R_lt zq83)) (Kd.R_lt (zrk HO260.out))) (Kd.R_lt (zrk HO263.out))) (below_size zq0))
 replace HO248 := zA (Kd.R_elder' zq53 (Kd.R_base ho0) hb)
 replace HO254 := zA (Kd.R_elder' zq82 (Kd.R_base ho0) hb)
 replace HO257 := zA (Kd.R_elder' zq83 (Kd.R_base ho0) hb)
 replace HO260 := zA (Kd.R_elder' (zrk HO260.out) (Kd.R_base ho0) hb)
 replace HO263 := zA (Kd.R_elder' (zrk HO263.out) (Kd.R_base ho0) hb)
 replace BK245 := zA (zbb BK245.out hb)
 replace HB := zA (below_step zq0 hb)
 (try clear hb)
 (try clear hb2)
 (try clear hk)
 (try clear hi)
 (try clear ho0)
 refine hK.out _ _ (zd5 BK245.out) (fun hHeld => ?_)
 clear hK K
 refine norm_ (a' := ?_) ?_ ?_
 rotate_left
 ·show Act.put _ (some 21) _ = _
  simp only [zvs, i64_w, i32_w]
  rfl
 refine one_ (i := 11) (N := some 24) (zv 14 4095) rfl rfl (one_of HT_.out (by kernel_rfl)) zq52 (fun K hK => ?_)
 refine goes_ Try.func152 (by kernel_rfl) rfl #[.int .i64 a0_3] zq94 rfl rfl zq20 ?_
 with_reducible refine (spec_PutInt.calls k a0_3 t267 _ A20.out).mono ?_
 rintro e w35 ⟨v268, rfl, ho0, hb⟩
 refine ⟨_, rfl, ?_⟩
 have HO269 := zA (Kd.R_lower (Kd.R_new' (Kd.R_new' (Kd.R_new' (Kd.R_new' (Kd.R_new' (Kd.R_new' ho0 (Kd.R_lt zq53)) (Kd.R_lt zq82)) (Kd.R_lt zq83)) (Kd.R_lt (zrk HO260.out))) (Kd.R_lt (zrk HO263.out))) (Kd.R_lt (zrk HO266.out))) (below_size zq0))
 replace HO248 := zA (Kd.R_elder' zq53 (Kd.R_base ho0) hb)
 replace HO254 := zA (Kd.R_elder' zq82 (Kd.R_base ho0) hb)
 replace HO257 := zA (Kd.R_elder' zq83 (Kd.R_base ho0) hb)
 replace HO260 := zA (Kd.R_elder' (zrk HO260.out) (Kd.R_base ho0) hb)
 replace HO263 := zA (Kd.R_elder' (zrk HO263.out) (Kd.R_base ho0) hb)
 replace HO266 := zA (Kd.R_elder' (zrk HO266.out) (Kd.R_base ho0) hb)
 replace BK245 := zA (zbb BK245.out hb)
 replace HB := zA (below_step zq0 hb)
 (try clear hb)
 (try clear hb2)
 (try clear hk)
 (try clear hi)
 (try clear ho0)
 obtain ⟨Ao36, co36, eo36⟩ := Kd.R_slice HO266.out
 (first | subst eo36 | (injection eo36 with f1_ f2_ f3_; have f4_ := f1_.symm; have f5_ := f3_.symm; clear f1_ f2_ f3_; subst f4_; subst f5_))
 obtain ⟨Ao37, co37, eo37⟩ := Kd.R_slice HO269.out
 (first | subst eo37 | (injection eo37 with f1_ f2_ f3_; have f4_ := f1_.symm; have f5_ := f3_.symm; clear f1_ f2_ f3_; subst f4_; subst f5_))
 refine hK.out _ _ (zd5 BK245.out) (fun hHeld => ?_)
 clear hK K
 refine norm_ (a' := ?_) ?_ ?_
 rotate_left
 ·show Act.put _ (some 24) _ = _
  simp only [zvs, i64_w, i32_w]
  rfl
 refine one_ (i := 12) (N := some 25) (zv 14 8191) rfl rfl (one_of HT_.out (by kernel_rfl)) zq52 (fun K hK => ?_)
 refine goes_ Try.func126 (by kernel_rfl) rfl #[.slice Ao36 t264.length co36, .int .i64 2, .slice Ao37 t267.length co37] zq94 rfl rfl zq20 ?_
 with_reducible refine (spec_PutTlv.calls k _ _ t264 2 _ _ t267 t270 _ ?side1 ?side2 ?side3 ?side4 A21.out).mono ?_
 (case side1 => exact (zck (Kd.R_reads' HO266.out).2.2))
 (case side2 => exact (Kd.R_reads' HO266.out).2.1)
 (case side3 => exact (zck (Kd.R_reads' HO269.out).2.2))
 (case side4 => exact (Kd.R_reads' HO269.out).2.1)
 rintro e w38 ⟨v271, rfl, ho0, hb⟩
 refine ⟨_, rfl, ?_⟩
 have HO272 := zA (Kd.R_lower (Kd.R_new' (Kd.R_new' (Kd.R_new' (Kd.R_new' (Kd.R_new' (Kd.R_new' (Kd.R_new' ho0 (Kd.R_lt zq53)) (Kd.R_lt zq82)) (Kd.R_lt zq83)) (Kd.R_lt (zrk HO260.out))) (Kd.R_lt (zrk HO263.out))) (Kd.R_lt (zrk HO266.out))) (Kd.R_lt (zrk HO269.out))) (below_size zq0))
 replace HO248 := zA (Kd.R_elder' zq53 (Kd.R_base ho0) hb)
 replace HO254 := zA (Kd.R_elder' zq82 (Kd.R_base ho0) hb)
 replace HO257 := zA (Kd.R_elder' zq83 (Kd.R_base ho0) hb)
 replace HO260 := zA (Kd.R_elder' (zrk HO260.out) (Kd.R_base ho0) hb)
 replace HO263 := zA (Kd.R_elder' (zrk HO263.out) (Kd.R_base ho0) hb)
 replace HO266 := zA (Kd.R_elder' (zrk HO266.out) (Kd.R_base ho0) hb)
 replace HO269 := zA (Kd.R_elder' (zrk HO269.out) (Kd.R_base ho0) hb)
 replace BK245 := zA (zbb BK245.out hb)
 replace HB := zA (below_step zq0 hb)
 (try clear hb)
 (try clear hb2)
 (try clear hk)
 (try clear hi)
 (try clear ho0)
 refine hK.out _ _ (zd5 BK245.out) (fun hHeld => ?_)
 clear hK K
 refine norm_ (a' := ?_) ?_ ?_
 rotate_left
 ·show Act.put _ (some 25) _ = _
  simp only [zvs, i64_w, i32_w]
  rfl
 refine zyt 13 5 (zv 14 16383) ?_
 refine done_ (done_of HT_.out (by kernel_rfl)) ?_
 go_upto_region 5 with fail
 replace H := zB H; obtain ⟨t273, A39, H⟩ := H
 try dsimp only at H
 obtain ⟨Ao41, co41, eo41⟩ := Kd.R_slice HO272.out
 subst eo41
 go_upto_region 6 with (first | ((with_reducible refine zg126 rfl ?_); refine zl126 (some 28) #[.slice Ao41 t270.length co41, .int .i64 48, .slice Ao15 t246.length co15] ?_; (with_reducible refine (spec_PutTlv.calls k _ _ t270 48 _ _ t246 t273 _ ?side1 ?side2 ?side3 ?side4 A39.out).mono ?_); (case side1 => exact (zck (Kd.R_reads' HO272.out).2.2)); (case side2 => exact (Kd.R_reads' HO272.out).2.1); (case side3 => exact (zck (Kd.R_reads' HO248.out).2.2)); (case side4 => exact (Kd.R_reads' HO248.out).2.1); rintro e w42 ⟨v274, rfl, ho0, hb⟩; refine ⟨_, rfl, ?_⟩; have HO275 := zA (Kd.R_lower (Kd.R_new' (Kd.R_new' (Kd.R_new' (Kd.R_new' (Kd.R_new' (Kd.R_new' (Kd.R_new' (Kd.R_new' ho0 (Kd.R_lt zq53)) (Kd.R_lt zq82)) (Kd.R_lt zq83)) (Kd.R_lt (zrk HO260.out))) (Kd.R_lt (zrk HO263.out))) (Kd.R_lt (zrk HO266.out))) (Kd.R_lt (zrk HO269.out))) (Kd.R_lt (zrk HO272.out))) (below_size zq0)); replace HO248 := zA (Kd.R_elder' zq53 (Kd.R_base ho0) hb); replace HO254 := zA (Kd.R_elder' zq82 (Kd.R_base ho0) hb); replace HO257 := zA (Kd.R_elder' zq83 (Kd.R_base ho0) hb); replace HO260 := zA (Kd.R_elder' (zrk HO260.out) (Kd.R_base ho0) hb); replace HO263 := zA (Kd.R_elder' (zrk HO263.out) (Kd.R_base ho0) hb); replace HO266 := zA (Kd.R_elder' (zrk HO266.out) (Kd.R_base ho0) hb); replace HO269 := zA (Kd.R_elder' (zrk HO269.out) (Kd.R_base ho0) hb); replace HO272 := zA (Kd.R_elder' (zrk HO272.out) (Kd.R_base ho0) hb); replace BK245 := zA (zbb BK245.out hb); replace HB := zA (below_step zq0 hb); clear hb ho0))
 (try simp only [zvs])
 obtain ⟨rfl, rfl⟩ := zt2 H
 obtain ⟨Ao43, co43, eo43⟩ := Kd.R_slice HO275.out
 subst eo43
 go_wp2
 go_ret2
 exact ⟨_, zq1, (by (with_reducible repeat (first | apply Kd.R_alloc | apply Kd.R_drewN | apply Kd.R_drew)); exact Kd.R_mono HO275.out (fun _ hk => trivial)), zq0⟩

/-! ### spec_PutPdu: function 26 -/
def spec_PutPdu.f (k : Nat) (a0_0 : Int) (a0_1 : Int) (a0_2 : Int) (a0_3 : Int) (l0_4 : List (S116)) : Option (List Int) := (spec_PduOk.f k a0_0 a0_1 a0_2 a0_3 l0_4).bind fun t277 => (if t277 = true then ((spec_l4Body.f k a0_0 a0_1 a0_2 a0_3 l0_4).bind fun bt281 => (if bt281.2 = true then ((spec_PutTlv.f k (([] : List Int)) a0_0 bt281.1).bind fun t288 => (some t288)) else (some (([] : List Int))))) else (some (([] : List Int))))
theorem spec_PutPdu.mono : ∀ a0 a1 a2 a3 a4 k, LeO (spec_PutPdu.f k a0 a1 a2 a3 a4) (spec_PutPdu.f (k + 1) a0 a1 a2 a3 a4) := by
 intro a0 a1 a2 a3 a4 k
 unfold spec_PutPdu.f
 have m0_ := @spec_PduOk.mono
 have m1_ := @spec_PutTlv.mono
 have m2_ := @spec_l4Body.mono
 exact zR
theorem spec_PutPdu.calls (k : Nat) (a0_0 : Int) (a0_1 : Int) (a0_2 : Int) (a0_3 : Int) (A0_4 : Option Addr) (c0_4 : Nat) (l0_4 : List (S116)) (r : List Int) (w : World) (hr0_4 : Kd.C k116 w A0_4 l0_4.length l0_4) (hc0_4 : l0_4.length ≤ c0_4) (h : spec_PutPdu.f k a0_0 a0_1 a0_2 a0_3 l0_4 = some r) :
  Calls Try.prog 26 #[.agg #[.int .i64 a0_0, .int .i64 a0_1, .int .i64 a0_2, .int .i64 a0_3, .slice A0_4 l0_4.length c0_4]] w fun e w' => ∃ v0_ : Value, e = .returned (v0_) ∧ Kd.R (Kd.int .u8) 5 w' w.heap.size (fun _ => True) v0_ r ∧ Below w.heap.size w w' := by
 have hu26 := Try.underlying26
 have HR0_4 := zA hr0_4
 have HC0_4 := zA hc0_4
 clear hr0_4 hc0_4
 have HB := zA (Below.refl w.heap.size w)
 unfold spec_PutPdu.f at h
 have H := zA h
 clear h
 go_enter Try.func26, Try.ntmps26
 go_upto_region 0 with fail
 go_upto_region 1 with (first | ((with_reducible refine gate_dst (N := 1) rfl ?_); refine box_event ?hg (N := 1) ?hd (cs := #[.int .i64 a0_0, .int .i64 a0_1, .int .i64 a0_2, .int .i64 a0_3, .slice A0_4 l0_4.length c0_4]) (t := 26) ?hr ?_; (case hd => rfl); (case hg => rfl); (case hr => exact zgs); intro gb276 hg w4 hbox hb; have BK276 := zA (hbox); have GW276 := zA ((zq5 : w.heap.size ≤ gb276)); have GE276 := zA ((zq5 : w.heap.size ≤ gb276)); replace HB := zA (below_step zq0 hb); clear hb hbox hg))
 (try simp only [zvs])
 replace H := zB H; obtain ⟨t277, A5, H⟩ := H
 try dsimp only at H
 replace H := zE H; rcases H with ⟨rfl, H⟩ | ⟨rfl, H⟩
 ·have hz8 := zc5 BK276.out
  go_upto_region 3 with (first | ((with_reducible refine zg121 rfl ?_); refine zl121 (some 6) #[.agg #[.int .i64 a0_0, .int .i64 a0_1, .int .i64 a0_2, .int .i64 a0_3, .slice A0_4 l0_4.length c0_4]] ?_; (with_reducible refine (spec_PduOk.calls k a0_0 a0_1 a0_2 a0_3 _ _ l0_4 true _ ?side1 ?side2 A5.out).mono ?_); (case side1 => exact zq102); (case side2 => exact HC0_4.out); rintro e w9 ⟨rfl, hb⟩; refine ⟨_, rfl, ?_⟩; replace BK276 := zA (zbb BK276.out hb); replace HB := zA (below_step zq0 hb); clear hb))
  (try simp only [zvs])
  replace H := zB H; obtain ⟨⟨t281, t284⟩, A10, H⟩ := H
  try dsimp only at H
  have hz12 := zc5 BK276.out
  go_upto_region 4 with (first | ((with_reducible refine zg125 rfl ?_); refine zl125 (some 11) #[.agg #[.int .i64 a0_0, .int .i64 a0_1, .int .i64 a0_2, .int .i64 a0_3, .slice A0_4 l0_4.length c0_4]] ?_; (with_reducible refine (spec_l4Body.calls k a0_0 a0_1 a0_2 a0_3 _ _ l0_4 t281 t284 _ ?side1 ?side2 A10.out).mono ?_); (case side1 => exact zq102); (case side2 => exact HC0_4.out); rintro e w13 ⟨v282, rfl, ho0, hb⟩; refine ⟨_, rfl, ?_⟩; have HO283 := zA (Kd.R_lower ho0 (below_size zq0)); replace BK276 := zA (zbb BK276.out hb); replace HB := zA (below_step zq0 hb); clear hb ho0))
  (try simp only [zvs])
  replace H := zE H; rcases H with ⟨rfl, H⟩ | ⟨rfl, H⟩
  ·go_upto_region 6 with fail
   obtain ⟨y285, hy285⟩ : ∃ y_ : List Int, y_ = (([] : List Int)) := ⟨_, rfl⟩
   rw [← hy285] at H
   have Ny285 := zA hy285
   clear hy285
   replace H := zB H; obtain ⟨t288, A16, H⟩ := H
   try dsimp only at H
   obtain rfl := zi H
   go_wp2_with (first | ((with_reducible refine gate_dst (N := 17) rfl ?_); refine Kd.R_lit (Kd.int .u8) _ 5 ?hg (N := 17) ?hd (xs := ([] : List Int)) (inner := []) (ok := fun _ => True) (okp := fun _ => True) ?hr ?hp (fun _ hk => hk) trivial (Below.refl _ _) (Nat.le_refl _) zq219 ?_; (case hd => rfl); (case hg => rfl); (case hr => exact zgs); (case hp => exact (Reps.none _ _)); intro v286 w17 ho18 hb hg_ hnew_; clear hg_ hnew_; (first | rw [← Ny285.out] at ho18 | (simp only [Int.reduceToNat] at ho18; rw [← Ny285.out] at ho18)); have HO287 := zA (Kd.R_lower (Kd.R_new' ho18 (Kd.R_lt (zrk HO283.out))) (below_size zq0)); replace HO283 := zA (Kd.R_elder' (zrk HO283.out) (Kd.R_base ho18) hb); replace BK276 := zA (zbb BK276.out hb); replace HB := zA (below_step zq0 hb); clear hb ho18; have hz19 := zc5 BK276.out; obtain ⟨Ao20, co20, eo20⟩ := Kd.R_slice HO287.out; subst eo20; obtain ⟨Ao21, co21, eo21⟩ := Kd.R_slice HO283.out; subst eo21) | ((with_reducible refine zg126 rfl ?_); refine zl126 (some 21) #[.slice Ao20 y285.length co20, .int .i64 a0_0, .slice Ao21 t281.length co21] ?_; (with_reducible refine (spec_PutTlv.calls k _ _ y285 a0_0 _ _ t281 t288 _ ?side1 ?side2 ?side3 ?side4 A16.out).mono ?_); (case side1 => exact (zck (Kd.R_reads' HO287.out).2.2)); (case side2 => exact (Kd.R_reads' HO287.out).2.1); (case side3 => exact (zck (Kd.R_reads' HO283.out).2.2)); (case side4 => exact (Kd.R_reads' HO283.out).2.1); rintro e w22 ⟨v289, rfl, ho0, hb⟩; refine ⟨_, rfl, ?_⟩; have HO290 := zA (Kd.R_lower (Kd.R_new' (Kd.R_new' ho0 (Kd.R_lt (zrk HO283.out))) (Kd.R_lt (zrk HO287.out))) (below_size zq0)); replace HO283 := zA (Kd.R_elder' (zrk HO283.out) (Kd.R_base ho0) hb); replace HO287 := zA (Kd.R_elder' (zrk HO287.out) (Kd.R_base ho0) hb); replace BK276 := zA (zbb BK276.out hb); replace HB := zA (below_step zq0 hb); clear hb ho0))
   go_ret
   exact ⟨_, zq1, (by (with_reducible repeat (first | apply Kd.R_alloc | apply Kd.R_drewN | apply Kd.R_drew)); exact Kd.R_mono HO290.out (fun _ hk => trivial)), zq0⟩
  go_upto_region 5 with fail
  obtain ⟨y291, hy291⟩ : ∃ y_ : List Int, y_ = (([] : List Int)) := ⟨_, rfl⟩
  rw [← hy291] at H
  have Ny291 := zA hy291
  clear hy291
  obtain rfl := zi H
  go_wp2_with (first | ((with_reducible refine gate_dst (N := 16) rfl ?_); refine Kd.R_lit (Kd.int .u8) _ 5 ?hg (N := 16) ?hd (xs := ([] : List Int)) (inner := []) (ok := fun _ => True) (okp := fun _ => True) ?hr ?hp (fun _ hk => hk) trivial (Below.refl _ _) (Nat.le_refl _) zq219 ?_; (case hd => rfl); (case hg => rfl); (case hr => exact zgs); (case hp => exact (Reps.none _ _)); intro v292 w24 ho25 hb hg_ hnew_; clear hg_ hnew_; (first | rw [← Ny291.out] at ho25 | (simp only [Int.reduceToNat] at ho25; rw [← Ny291.out] at ho25)); have HO293 := zA (Kd.R_lower (Kd.R_new' ho25 (Kd.R_lt (zrk HO283.out))) (below_size zq0)); replace HO283 := zA (Kd.R_elder' (zrk HO283.out) (Kd.R_base ho25) hb); replace BK276 := zA (zbb BK276.out hb); replace HB := zA (below_step zq0 hb); clear hb ho25))
  go_ret
  exact ⟨_, zq1, (by (with_reducible repeat (first | apply Kd.R_alloc | apply Kd.R_drewN | apply Kd.R_drew)); exact Kd.R_mono HO293.out (fun _ hk => trivial)), zq0⟩
 have hz27 := zc5 BK276.out
 go_upto_region 2 with (first | ((with_reducible refine zg121 rfl ?_); refine zl121 (some 6) #[.agg #[.int .i64 a0_0, .int .i64 a0_1, .int .i64 a0_2, .int .i64 a0_3, .slice A0_4 l0_4.length c0_4]] ?_; (with_reducible refine (spec_PduOk.calls k a0_0 a0_1 a0_2 a0_3 _ _ l0_4 false _ ?side1 ?side2 A5.out).mono ?_); (case side1 => exact zq102); (case side2 => exact HC0_4.out); rintro e w28 ⟨rfl, hb⟩; refine ⟨_, rfl, ?_⟩; replace BK276 := zA (zbb BK276.out hb); replace HB := zA (below_step zq0 hb); clear hb))
 (try simp only [zvs])
 obtain ⟨y278, hy278⟩ : ∃ y_ : List Int, y_ = (([] : List Int)) := ⟨_, rfl⟩
 rw [← hy278] at H
 have Ny278 := zA hy278
 clear hy278
 obtain rfl := zi H
 go_wp2_with (first | ((with_reducible refine gate_dst (N := 8) rfl ?_); refine Kd.R_lit (Kd.int .u8) _ 5 ?hg (N := 8) ?hd (xs := ([] : List Int)) (inner := []) (ok := fun _ => True) (okp := fun _ => True) ?hr ?hp (fun _ hk => hk) trivial (Below.refl _ _) (Nat.le_refl _) zq219 ?_; (case hd => rfl); (case hg => rfl); (case hr => exact zgs); (case hp => exact (Reps.none _ _)); intro v279 w29 ho30 hb hg_ hnew_; clear hg_ hnew_; (first | rw [← Ny278.out] at ho30 | (simp only [Int.reduceToNat] at ho30; rw [← Ny278.out] at ho30)); have HO280 := zA (Kd.R_lower ho30 (below_size zq0)); replace BK276 := zA (zbb BK276.out hb); replace HB := zA (below_step zq0 hb); clear hb ho30))
 go_ret
 exact ⟨_, zq1, (zrk HO280.out), zq0⟩

end Go.Proofs.Ytkcgghgkmgbphaa.PFnMsgs
