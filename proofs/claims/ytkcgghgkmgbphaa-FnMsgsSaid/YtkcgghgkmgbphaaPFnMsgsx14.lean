-- WRITTEN BY a turned copy of the kit's printer (wip/patch_print.py), for this claim
import Derived.Test.YtkcgghgkmgbphaaPFnMsgsx0
import Derived.Test.YtkcgghgkmgbphaaPFnMsgsx11
import Derived.Test.YtkcgghgkmgbphaaPFnMsgsx12
import Derived.Test.YtkcgghgkmgbphaaPFnMsgsx13
namespace Go.Proofs.Ytkcgghgkmgbphaa.PFnMsgs
open Go.RowKit Go.Proofs.YtkcgghgkmgbphaaW.PrintWords Go.Proofs.YtkcgghgkmgbphaaW.PrintLast Go.Proofs.YtkcgghgkmgbphaaW.PrintMore
attribute [local go_sem] max2_int min2_int max_two min_two max_three min_three max_four min_four   -- for this text's walks alone
set_option linter.unusedVariables false
set_option linter.unusedSimpArgs false
set_option maxHeartbeats 8000000
set_option maxRecDepth 100000

attribute [local go_sem] cell_setCell_m
/-! ### impl_PutPdu: function 20 -/
def impl_PutPdu.l0 : Nat → List Int → List (S116) → Int → Int → Int → Int → Int → Int → List (S116) → Option (List Int)
 | 0, _, _, _, _, _, _, _, _, _ => none
 | k + 1, x3, x16, x17, x18, x427000, x427001, x427002, x427003, x427004 => if x18 < x17 then (if 0 ≤ x18 then (if x18 < (x16.length : Int) then ((impl_PutOid.f k ((rd_T116 x16 x18).f0)).bind fun t430 => ((impl_PutTlv.f k ([] : List Int) 6 t430).bind fun t433 => ((impl_PutVal.f k t433 ((rd_T116 x16 x18).f1.f0) ((rd_T116 x16 x18).f1.f1) ((rd_T116 x16 x18).f1.f2) ((rd_T116 x16 x18).f1.f3)).bind fun t436 => ((impl_tlv.f k 48 t436).bind fun bt439 => (if bt439.2 = true then (if x3.length + bt439.1.length < 140737488355328 then (impl_PutPdu.l0 k (x3 ++ bt439.1) x16 x17 (wrap64 (x18 + 1)) x427000 x427001 x427002 x427003 x427004) else (none)) else (some ([] : List Int))))))) else (none)) else (none)) else ((impl_tlv.f k 48 x3).bind fun bt446 => (if bt446.2 = true then ((impl_addNum.f k ([] : List Int) 2 x427001).bind fun t450 => ((impl_addNum.f k t450 2 x427002).bind fun t453 => ((impl_addNum.f k t453 2 x427003).bind fun t456 => (if t456.length + bt446.1.length < 140737488355328 then ((impl_tlv.f k x427000 (t456 ++ bt446.1)).bind fun bt462 => (if bt462.2 = true then (some bt462.1) else (some ([] : List Int)))) else (none))))) else (some ([] : List Int))))
def impl_PutPdu.f (k : Nat) (a0_0 : Int) (a0_1 : Int) (a0_2 : Int) (a0_3 : Int) (l0_4 : List (S116)) : Option (List Int) := (impl_PduOk.f k a0_0 a0_1 a0_2 a0_3 l0_4).bind fun t427 => (if t427 = true then (impl_PutPdu.l0 k ([] : List Int) l0_4 (l0_4.length : Int) 0 a0_0 a0_1 a0_2 a0_3 l0_4) else (some ([] : List Int)))
theorem impl_PutPdu.mono_l : ∀ k, (∀ y0 y1 y2 y3 y4 y5 y6 y7 y8, LeO (impl_PutPdu.l0 k y0 y1 y2 y3 y4 y5 y6 y7 y8) (impl_PutPdu.l0 (k + 1) y0 y1 y2 y3 y4 y5 y6 y7 y8))
 | 0 => fun _ _ _ _ _ _ _ _ _ r h => by simp [impl_PutPdu.l0] at h
 | k + 1 => by
  have ih0 := impl_PutPdu.mono_l k
  ·intro y0 y1 y2 y3 y4 y5 y6 y7 y8
   unfold impl_PutPdu.l0
   have m0_ := @impl_PduOk.mono
   have m1_ := @impl_PutOid.mono
   have m2_ := @impl_PutTlv.mono
   have m3_ := @impl_PutVal.mono
   have m4_ := @impl_addNum.mono
   have m5_ := @impl_tlv.mono
   exact zR
theorem impl_PutPdu.mono : ∀ a0 a1 a2 a3 a4 k, LeO (impl_PutPdu.f k a0 a1 a2 a3 a4) (impl_PutPdu.f (k + 1) a0 a1 a2 a3 a4) := by
 intro a0 a1 a2 a3 a4 k
 have ih0 := impl_PutPdu.mono_l k
 unfold impl_PutPdu.f
 have m0_ := @impl_PduOk.mono
 have m1_ := @impl_PutOid.mono
 have m2_ := @impl_PutTlv.mono
 have m3_ := @impl_PutVal.mono
 have m4_ := @impl_addNum.mono
 have m5_ := @impl_tlv.mono
 exact zR
def impl_PutPdu.T7 : Bool × List (List Nat × List Nat) := (true, [([], []), ([0], [0]), ([1], [1]), ([2, 2], [2]), ([], []), ([4], [4]), ([3, 5, 3], [3, 5]), ([6, 6], [6]), ([7], [7]), ([8], [8]), ([8], [8]), ([9, 7, 0, 1, 2, 3, 4, 5, 6, 7, 8, 9], [9]), ([10, 11, 0, 1, 2, 3, 4, 5, 6, 7, 8, 9, 10, 11], [10])])
def impl_PutPdu.B7 : List Nat := [0, 1, 3, 7, 0, 16, 63, 127, 255, 511, 511, 1023, 4095]
theorem impl_PutPdu.tab7 : rtab .any (opsOf Try.f20 7) = impl_PutPdu.T7 := by kernel_rfl
theorem impl_PutPdu.bits7 : waitsOk impl_PutPdu.T7.2 impl_PutPdu.B7 = true := by kernel_rfl
def impl_PutPdu.T15 : Bool × List (List Nat × List Nat) := (true, [([], []), ([0], [0]), ([], []), ([2], [2]), ([3], [3]), ([], []), ([5], [5]), ([4, 6, 4], [4, 6]), ([], []), ([8], [8]), ([7, 9, 7], [7, 9]), ([], []), ([10, 11, 10], [10, 11]), ([1, 12, 12], [1, 12]), ([13], [13]), ([14], [14]), ([14], [14]), ([15, 13, 0, 1, 2, 3, 4, 5, 6, 7, 8, 9, 10, 11, 12, 13, 14, 15], [15]), ([16, 17, 0, 1, 2, 3, 4, 5, 6, 7, 8, 9, 10, 11, 12, 13, 14, 15, 16, 17], [16])])
def impl_PutPdu.B15 : List Nat := [0, 1, 0, 4, 12, 0, 32, 124, 0, 256, 1020, 0, 4092, 8191, 16383, 32767, 32767, 65535, 262143]
theorem impl_PutPdu.tab15 : rtab .any (opsOf Try.f20 15) = impl_PutPdu.T15 := by kernel_rfl
theorem impl_PutPdu.bits15 : waitsOk impl_PutPdu.T15.2 impl_PutPdu.B15 = true := by kernel_rfl
theorem impl_PutPdu.calls (k : Nat) (a0_0 : Int) (a0_1 : Int) (a0_2 : Int) (a0_3 : Int) (A0_4 : Option Addr) (c0_4 : Nat) (l0_4 : List (S116)) (r : List Int) (w : World) (hr0_4 : Kd.C k116 w A0_4 l0_4.length l0_4) (hc0_4 : l0_4.length ≤ c0_4) (h : impl_PutPdu.f k a0_0 a0_1 a0_2 a0_3 l0_4 = some r) :
  Calls Try.prog 20 #[.agg #[.int .i64 a0_0, .int .i64 a0_1, .int .i64 a0_2, .int .i64 a0_3, .slice A0_4 l0_4.length c0_4]] w fun e w' => ∃ v0_ : Value, e = .returned (v0_) ∧ Kd.R (Kd.int .u8) 5 w' w.heap.size (fun _ => True) v0_ r ∧ Below w.heap.size w w' := by
 have hu26 := Try.underlying26
 have hu116 := Try.underlying116
 have hu76 := Try.underlying76
 have HR0_4 := zA hr0_4
 have HC0_4 := zA hc0_4
 clear hr0_4 hc0_4
 have HB := zA (Below.refl w.heap.size w)
 unfold impl_PutPdu.f at h
 have H := zA h
 clear h
 go_enter Try.func20, Try.ntmps20
 go_upto_region 0 with fail
 go_upto_region 1 with (first | ((with_reducible refine gate_dst (N := 1) rfl ?_); refine box_event ?hg (N := 1) ?hd (cs := #[.int .i64 a0_0, .int .i64 a0_1, .int .i64 a0_2, .int .i64 a0_3, .slice A0_4 l0_4.length c0_4]) (t := 26) ?hr ?_; (case hd => rfl); (case hg => rfl); (case hr => exact zgs); intro gb426 hg w4 hbox hb; have BK426 := zA (hbox); have GW426 := zA ((zq5 : w.heap.size ≤ gb426)); have GE426 := zA ((zq5 : w.heap.size ≤ gb426)); replace HB := zA (below_step zq0 hb); clear hb hbox hg))
 (try simp only [zvs])
 replace H := zB H; obtain ⟨t427, A5, H⟩ := H
 try dsimp only at H
 replace H := zE H; rcases H with ⟨rfl, H⟩ | ⟨rfl, H⟩
 ·have hz8 := zc5 BK426.out
  go_upto_region 3 with (first | ((with_reducible refine zg24 rfl ?_); refine zl24 (some 13) #[.agg #[.int .i64 a0_0, .int .i64 a0_1, .int .i64 a0_2, .int .i64 a0_3, .slice A0_4 l0_4.length c0_4]] ?_; (with_reducible refine (impl_PduOk.calls k a0_0 a0_1 a0_2 a0_3 _ _ l0_4 true _ ?side1 ?side2 A5.out).mono ?_); (case side1 => exact zq102); (case side2 => exact HC0_4.out); rintro e w9 ⟨rfl, hb⟩; refine ⟨_, rfl, ?_⟩; replace BK426 := zA (zbb BK426.out hb); replace HB := zA (below_step zq0 hb); clear hb))
  (try simp only [zvs])
  go_upto_region 4 with fail
  have H' := H; clear H
  have hz11 := zc5 BK426.out
  go_wp2
  go_loopg [3, 18] k (fun kq v3 v18 w' => ∃ (x3_1 : List Int) (x18_1 : Int), v18 = .int .i64 x18_1 ∧ Aside0 (impl_PutPdu.l0 kq x3_1 l0_4 (l0_4.length : Int) x18_1 a0_0 a0_1 a0_2 a0_3 l0_4 = some r) ∧ Aside0 (kq ≤ k) ∧ Aside0 (Kd.R (Kd.int .u8) 5 w' w.heap.size (fun _ => True) v3 x3_1) ∧ Aside0 (w'.heap[gb426]? = some (.cells #[.int .i64 a0_0, .int .i64 a0_1, .int .i64 a0_2, .int .i64 a0_3, (.slice A0_4 l0_4.length c0_4)] 26 (0, 0))) ∧ Aside0 (Below w.heap.size w w'))
  case atStart => exact ⟨(([] : List Int)), (0), zq15, H', ⟨Nat.le_refl _⟩, ⟨zq7⟩, ⟨(zbk BK426.out)⟩, ⟨zq0⟩⟩
  case round =>
   clear H'
   try clear c2
   try clear p2
   try clear c6
   try clear hz11
   try clear hz8
   obtain ⟨x3_1, x18_1, rfl, HA, HK1, HO_3, BK426, HB⟩ := hrel
   cases gk with
   | zero => exact absurd HA.out (by simp [impl_PutPdu.l0])
   | succ k1 =>
    have H := HA
    clear HA
    simp only [impl_PutPdu.l0] at H
    go_upto_region 5 with fail
    replace H := zPd H; rcases H with ⟨c13b0, H⟩ | ⟨c13b0, H⟩
    ·go_upto_region 6 with fail
     replace H := zNd H; obtain ⟨c15b0, H⟩ := H
     replace H := zNd H; obtain ⟨c16b0, H⟩ := H
     have p428 : 0 ≤ (x18_1 : Int) := of_decide_eq_true zq13
     have q428 : x18_1 < (l0_4.length : Int) := of_decide_eq_true zq13
     obtain ⟨ad428, A428_0, c428_0, A428_4, c428_4, e428, hx428_0, hx428_1, hx428_2, hx428_3, hx428_4, hl428_0, hi428_0, hl428_4, hi428_4⟩ := at_T116 HR0_4.out x18_1 p428 q428
     cases e428
     replace hx428_0 := zcl HB.out hx428_0
     replace hx428_1 := zcl HB.out hx428_1
     replace hx428_2 := zcl HB.out hx428_2
     replace hx428_3 := zcl HB.out hx428_3
     replace hx428_4 := zcl HB.out hx428_4
     have HR428_0 := zA hi428_0
     have HC428_0 := zA hl428_0
     clear hi428_0 hl428_0
     have HR428_4 := zA hi428_4
     have HC428_4 := zA hl428_4
     clear hi428_4 hl428_4
     replace p428 := eq_true p428
     replace q428 := eq_true q428
     go_upto_region 7 with (first | ((with_reducible refine gate_dst (N := 5) rfl ?_); refine box_event ?hg (N := 5) ?hd (cs := #[.slice none 0 0, .int .i64 0, .int .i64 0, .string (⟨#[]⟩ : ByteArray), .slice none 0 0]) (t := 116) ?hr ?_; (case hd => rfl); (case hg => rfl); (case hr => exact zgs); intro gb429 hg w18 hbox hb; replace HO_3 := zA (Kd.R_below zq8 hb); have BK429 := zA (hbox); have GW429 := zA ((zq254 : w.heap.size ≤ gb429)); have GE429 := zA ((zq254 : w.heap.size ≤ gb429)); replace HB := zA (below_step zq0 hb); have NB426_429 := zA ((by rw [hg]; exact Nat.ne_of_lt (blk_lt (g := gb426) (o := .cells #[.int .i64 a0_0, .int .i64 a0_1, .int .i64 a0_2, .int .i64 a0_3, .slice (some ad428) l0_4.length c0_4] 26 (0, 0)) (zbk BK426.out)) : gb426 ≠ gb429)); have NB429_426 := zA ((by rw [hg]; exact Nat.ne_of_gt (blk_lt (g := gb426) (o := .cells #[.int .i64 a0_0, .int .i64 a0_1, .int .i64 a0_2, .int .i64 a0_3, .slice (some ad428) l0_4.length c0_4] 26 (0, 0)) (zbk BK426.out)) : gb429 ≠ gb426)); replace BK426 := zA (zbb BK426.out hb); clear hb hbox hg; have hn19 := zn NB429_426; have hz20 := zc5 BK429.out))
     (try simp only [zvs])
     replace H := zB H; obtain ⟨t430, A21, H⟩ := H
     try dsimp only at H
     replace H := zB H; obtain ⟨t433, A22, H⟩ := H
     try dsimp only at H
     replace H := zB H; obtain ⟨t436, A23, H⟩ := H
     try dsimp only at H
     replace H := zB H; obtain ⟨⟨t439, t440⟩, A24, H⟩ := H
     try dsimp only at H
     try go_wp2
     obtain ⟨w26, hW_⟩ : ∃ wz_, wz_ = (((((w18.setCell ⟨gb429, 0, none⟩ (.slice A428_0 ((rd_T116 l0_4 x18_1).f0).length c428_0)).setCell ⟨gb429, 1, none⟩ (.int .i64 ((rd_T116 l0_4 x18_1).f1.f0))).setCell ⟨gb429, 2, none⟩ (.int .i64 ((rd_T116 l0_4 x18_1).f1.f1))).setCell ⟨gb429, 3, none⟩ (.string ((rd_T116 l0_4 x18_1).f1.f2))).setCell ⟨gb429, 4, none⟩ (.slice A428_4 ((rd_T116 l0_4 x18_1).f1.f3).length c428_4)) := ⟨_, rfl⟩
     replace HO_3 : Aside0 (Kd.R (Kd.int .u8) 5 w26 w.heap.size (fun _ => True) u3 x3_1) := ⟨(by subst hW_; exact Kd.R_mono (Kd.R_far (Kd.R_far (Kd.R_far (Kd.R_far (Kd.R_far (Kd.R_types HO_3.out BK429.out zq52) (fun _ hk => hk.2) _) (fun _ hk => hk.2) _) (fun _ hk => hk.2) _) (fun _ hk => hk.2) _) (fun _ hk => hk.2) _) (fun _ hk => trivial))⟩
     replace BK426 : Aside0 (w26.heap[gb426]? = some (.cells #[.int .i64 a0_0, .int .i64 a0_1, .int .i64 a0_2, .int .i64 a0_3, .slice (some ad428) l0_4.length c0_4] 26 (0, 0))) := ⟨zwf hW_ BK426.out⟩
     replace BK429 : Aside0 (w26.heap[gb429]? = some (.cells #[.slice A428_0 ((rd_T116 l0_4 x18_1).f0).length c428_0, .int .i64 ((rd_T116 l0_4 x18_1).f1.f0), .int .i64 ((rd_T116 l0_4 x18_1).f1.f1), .string ((rd_T116 l0_4 x18_1).f1.f2), .slice A428_4 ((rd_T116 l0_4 x18_1).f1.f3).length c428_4] 116 (0, 0))) := ⟨zwp hW_ BK429.out⟩
     replace HB : Aside0 (Below w.heap.size w w26) := ⟨(zwh hW_ HB.out)⟩
     rw [← hW_]; clear hW_
     replace HO_3 := zA (Kd.R_drew HO_3.out)
     replace BK426 := zA (blk_drew BK426.out)
     replace BK429 := zA (blk_drew BK429.out)
     replace HB := zA (below_drew1 HB.out)
     refine start_ (n := 13) (S := fun w' => w'.cell? ⟨gb429, 0, none⟩ = some (.slice A428_0 ((rd_T116 l0_4 x18_1).f0).length c428_0) ∧ w'.cell? ⟨gb429, 1, none⟩ = some (.int .i64 ((rd_T116 l0_4 x18_1).f1.f0)) ∧ w'.cell? ⟨gb429, 2, none⟩ = some (.int .i64 ((rd_T116 l0_4 x18_1).f1.f1)) ∧ w'.cell? ⟨gb429, 3, none⟩ = some (.string ((rd_T116 l0_4 x18_1).f1.f2)) ∧ w'.cell? ⟨gb429, 4, none⟩ = some (.slice A428_4 ((rd_T116 l0_4 x18_1).f1.f3).length c428_4)) (ds := []) (zv 13 0) (by kernel_rfl) rfl rfl (zd5 BK429.out) (fun hHeld => ?_); refine with_tabW impl_PutPdu.tab7 impl_PutPdu.bits7 (fun HT_ HW_ => ?_)
     generalize w26.drew = w27 at HO_3 BK426 BK429 HB hHeld ⊢
     refine zyt 0 23 (zv 13 1) ?_
     refine zyt 4 27 (zv 13 17) ?_
     refine take_ (i := 1) (N := some 24) (v := ?_) (a' := ?_) (zv 13 19) rfl rfl (take_ofW HT_.out HW_.out (by kernel_rfl)) (fun _ _ _ h => h) (Or.inl ⟨zq94, ?_⟩) hHeld ?_ ?_
     rotate_left
     ·rintro w' ⟨s0, s1, s2, s3, s4⟩
      go_simp
      with_reducible rfl
     rotate_left
     ·simp only [zvs, i64_w, i32_w]
      rfl
     refine take_ (i := 5) (N := some 28) (v := ?_) (a' := ?_) (zv 13 51) rfl rfl (take_ofW HT_.out HW_.out (by kernel_rfl)) (fun _ _ _ h => h) (Or.inl ⟨zq94, ?_⟩) hHeld ?_ ?_
     rotate_left
     ·rintro w' ⟨s0, s1, s2, s3, s4⟩
      go_simp
      with_reducible rfl
     rotate_left
     ·simp only [zvs, i64_w, i32_w]
      rfl
     refine one_ (i := 2) (N := some 25) (zv 13 55) rfl rfl (one_of HT_.out (by kernel_rfl)) zq52 (fun K hK => ?_)
     refine goes_ Try.func108 (by kernel_rfl) rfl #[.slice A428_0 ((rd_T116 l0_4 x18_1).f0).length c428_0] zq94 rfl rfl zq20 ?_
     with_reducible refine (impl_PutOid.calls k1 _ _ ((rd_T116 l0_4 x18_1).f0) t430 _ ?side1 ?side2 A21.out).mono ?_
     (case side1 => exact (by repeat (first | exact (Kd.C_below HR428_0.out HB.out) | (with_reducible refine Kd.C_alloc ?_ _) | (with_reducible refine Kd.C_drewN ?_ _) | (with_reducible refine Kd.C_drew ?_))))
     (case side2 => exact HC428_0.out)
     rintro e w28 ⟨v431, rfl, ho0, hb⟩
     refine ⟨_, rfl, ?_⟩
     have HO432 := zA (Kd.R_lower (Kd.R_new' ho0 (Kd.R_lt zq8)) (below_size zq0))
     replace HO_3 := zA (Kd.R_elder' zq8 (Kd.R_base ho0) hb)
     replace BK426 := zA (zbb BK426.out hb)
     replace BK429 := zA (zbb BK429.out hb)
     replace HB := zA (below_step zq0 hb)
     (try clear hb)
     (try clear hb2)
     (try clear hk)
     (try clear hi)
     (try clear ho0)
     obtain ⟨Ao29, co29, eo29⟩ := Kd.R_slice HO432.out
     (first | subst eo29 | (injection eo29 with f1_ f2_ f3_; have f4_ := f1_.symm; have f5_ := f3_.symm; clear f1_ f2_ f3_; subst f4_; subst f5_))
     refine hK.out _ _ (zd5 BK429.out) (fun hHeld => ?_)
     clear hK K
     refine norm_ (a' := ?_) ?_ ?_
     rotate_left
     ·show Act.put _ (some 25) _ = _
      simp only [zvs, i64_w, i32_w]
      rfl
     refine one_ (i := 3) (N := some 26) (zv 13 63) rfl rfl (one_of HT_.out (by kernel_rfl)) zq52 (fun K hK => ?_)
     refine goes_ Try.func107 (by kernel_rfl) rfl #[.slice none 0 0, .int .i64 6, .slice Ao29 t430.length co29] zq94 rfl rfl zq20 ?_
     refine (impl_PutTlv.calls k1 _ _ ([] : List Int) 6 _ _ t430 t433 _ ?side1 ?side2 ?side3 ?side4 A22.out).mono ?_
     (case side1 => exact Kd.C_nil _ _)
     (case side2 => exact Nat.le_refl _)
     (case side3 => exact (zck (Kd.R_reads' HO432.out).2.2))
     (case side4 => exact (Kd.R_reads' HO432.out).2.1)
     rintro e w30 ⟨v434, rfl, ho0, hb⟩
     refine ⟨_, rfl, ?_⟩
     have HO435 := zA (Kd.R_lower (Kd.R_new' (Kd.R_new' ho0 (Kd.R_lt zq8)) (Kd.R_lt (zrk HO432.out))) (below_size zq0))
     replace HO_3 := zA (Kd.R_elder' zq8 (Kd.R_base ho0) hb)
     replace HO432 := zA (Kd.R_elder' (zrk HO432.out) (Kd.R_base ho0) hb)
     replace BK426 := zA (zbb BK426.out hb)
     replace BK429 := zA (zbb BK429.out hb)
     replace HB := zA (below_step zq0 hb)
     (try clear hb)
     (try clear hb2)
     (try clear hk)
     (try clear hi)
     (try clear ho0)
     obtain ⟨Ao31, co31, eo31⟩ := Kd.R_slice HO435.out
     (first | subst eo31 | (injection eo31 with f1_ f2_ f3_; have f4_ := f1_.symm; have f5_ := f3_.symm; clear f1_ f2_ f3_; subst f4_; subst f5_))
     refine hK.out _ _ (zd5 BK429.out) (fun hHeld => ?_)
     clear hK K
     refine norm_ (a' := ?_) ?_ ?_
     rotate_left
     ·show Act.put _ (some 26) _ = _
      simp only [zvs, i64_w, i32_w]
      rfl
     refine one_ (i := 6) (N := some 29) (zv 13 127) rfl rfl (one_of HT_.out (by kernel_rfl)) zq52 (fun K hK => ?_)
     refine goes_ Try.func70 (by kernel_rfl) rfl #[.slice Ao31 t433.length co31, .agg #[.int .i64 ((rd_T116 l0_4 x18_1).f1.f0), .int .i64 ((rd_T116 l0_4 x18_1).f1.f1), .string ((rd_T116 l0_4 x18_1).f1.f2), .slice A428_4 ((rd_T116 l0_4 x18_1).f1.f3).length c428_4]] zq94 rfl rfl zq20 ?_
     with_reducible refine (impl_PutVal.calls k1 _ _ t433 ((rd_T116 l0_4 x18_1).f1.f0) ((rd_T116 l0_4 x18_1).f1.f1) ((rd_T116 l0_4 x18_1).f1.f2) _ _ ((rd_T116 l0_4 x18_1).f1.f3) t436 _ ?side1 ?side2 ?side3 ?side4 A23.out).mono ?_
     (case side1 => exact (zck (Kd.R_reads' HO435.out).2.2))
     (case side2 => exact (Kd.R_reads' HO435.out).2.1)
     (case side3 => exact (by repeat (first | exact (Kd.C_below HR428_4.out HB.out) | (with_reducible refine Kd.C_alloc ?_ _) | (with_reducible refine Kd.C_drewN ?_ _) | (with_reducible refine Kd.C_drew ?_))))
     (case side4 => exact HC428_4.out)
     rintro e w32 ⟨v437, rfl, ho0, hb⟩
     refine ⟨_, rfl, ?_⟩
     have HO438 := zA (Kd.R_lower (Kd.R_new' (Kd.R_new' (Kd.R_new' ho0 (Kd.R_lt zq8)) (Kd.R_lt (zrk HO432.out))) (Kd.R_lt (zrk HO435.out))) (below_size zq0))
     replace HO_3 := zA (Kd.R_elder' zq8 (Kd.R_base ho0) hb)
     replace HO432 := zA (Kd.R_elder' (zrk HO432.out) (Kd.R_base ho0) hb)
     replace HO435 := zA (Kd.R_elder' (zrk HO435.out) (Kd.R_base ho0) hb)
     replace BK426 := zA (zbb BK426.out hb)
     replace BK429 := zA (zbb BK429.out hb)
     replace HB := zA (below_step zq0 hb)
     (try clear hb)
     (try clear hb2)
     (try clear hk)
     (try clear hi)
     (try clear ho0)
     obtain ⟨Ao33, co33, eo33⟩ := Kd.R_slice HO438.out
     (first | subst eo33 | (injection eo33 with f1_ f2_ f3_; have f4_ := f1_.symm; have f5_ := f3_.symm; clear f1_ f2_ f3_; subst f4_; subst f5_))
     refine hK.out _ _ (zd5 BK429.out) (fun hHeld => ?_)
     clear hK K
     refine norm_ (a' := ?_) ?_ ?_
     rotate_left
     ·show Act.put _ (some 29) _ = _
      simp only [zvs, i64_w, i32_w]
      rfl
     refine one_ (i := 7) (N := some 30) (zv 13 255) rfl rfl (one_of HT_.out (by kernel_rfl)) zq52 (fun K hK => ?_)
     refine goes_ Try.func106 (by kernel_rfl) rfl #[.int .i64 48, .slice Ao33 t436.length co33] zq94 rfl rfl zq20 ?_
     with_reducible refine (impl_tlv.calls k1 48 _ _ t436 t439 t440 _ ?side1 ?side2 A24.out).mono ?_
     (case side1 => exact (zck (Kd.R_reads' HO438.out).2.2))
     (case side2 => exact (Kd.R_reads' HO438.out).2.1)
     rintro e w34 ⟨v441, rfl, ho0, hb⟩
     refine ⟨_, rfl, ?_⟩
     have HO442 := zA (Kd.R_lower (Kd.R_new' (Kd.R_new' (Kd.R_new' (Kd.R_new' ho0 (Kd.R_lt zq8)) (Kd.R_lt (zrk HO432.out))) (Kd.R_lt (zrk HO435.out))) (Kd.R_lt (zrk HO438.out))) (below_size zq0))
     replace HO_3 := zA (Kd.R_elder' zq8 (Kd.R_base ho0) hb)
     replace HO432 := zA (Kd.R_elder' (zrk HO432.out) (Kd.R_base ho0) hb)
     replace HO435 := zA (Kd.R_elder' (zrk HO435.out) (Kd.R_base ho0) hb)
     replace HO438 := zA (Kd.R_elder' (zrk HO438.out) (Kd.R_base ho0) hb)
     replace BK426 := zA (zbb BK426.out hb)
     replace BK429 := zA (zbb BK429.out hb)
     replace HB := zA (below_step zq0 hb)
     (try clear hb)
     (try clear hb2)
     (try clear hk)
     (try clear hi)
     (try clear ho0)
     refine hK.out _ _ (zd5 BK429.out) (fun hHeld => ?_)
     clear hK K
     refine norm_ (a' := ?_) ?_ ?_
     rotate_left
     ·show Act.put _ (some 30) _ = _
      simp only [zvs, i64_w, i32_w]
      rfl
     refine zyt 8 22 (zv 13 511) ?_
     refine zyt 9 31 (zv 13 1023) ?_
     refine zyt 10 32 (zv 13 2047) ?_
     refine zyt 11 6 (zv 13 4095) ?_
     refine zyt 12 7 (zv 13 8191) ?_
     refine done_ (done_of HT_.out (by kernel_rfl)) ?_
     go_upto_region 8 with fail
     replace H := zE H; rcases H with ⟨rfl, H⟩ | ⟨rfl, H⟩
     ·go_upto_region 10 with fail
      replace H := zN H; obtain ⟨c37, H⟩ := H
      have LMc37 := zA c37
      clear c37
      obtain ⟨y443, hy443⟩ : ∃ y_ : List Int, y_ = (x3_1 ++ t439) := ⟨_, rfl⟩
      rw [← hy443] at H
      have Ny443 := zA hy443
      clear hy443
      obtain ⟨Ao40, co40, eo40⟩ := Kd.R_slice HO442.out
      subst eo40
      go_upto_region 11 with (first | ((with_reducible refine gate_builtin (b := .append) (xs := #[.tmp 35, .tmp 36]) rfl ?_); at_builtin; refine Kd.R_append_rows (Kd.int .u8) (w0 := w) w.heap.size rfl (.tmp 35) (.tmp 36) 22 5 (.int .u8 0) 1 rfl Try.underlying22 info5 rfl zq52 zq183 u3 x3_1 t439 _ _ _ (fun k_ => some k_ ≠ (.slice Ao29 t430.length co29 : Value).ownBlock ∧ some k_ ≠ (.slice Ao31 t433.length co31 : Value).ownBlock ∧ some k_ ≠ (.slice Ao33 t436.length co33 : Value).ownBlock ∧ some k_ ≠ (.slice Ao40 t439.length co40 : Value).ownBlock) (fun _ => False) rfl rfl ?aO ?aR (fun _ _ h => h) (fun _ h => h.elim) ?aF ?aB ?aS ?aL ?_; (case aR => exact (zck (Kd.R_reads' HO442.out).2.2)); (case aB => exact zq0); (case aF => exact (fun k_ hk => ⟨Kd.fresh' (Kd.R_lt (zrk HO432.out)) k_ hk, Kd.fresh' (Kd.R_lt (zrk HO435.out)) k_ hk, Kd.fresh' (Kd.R_lt (zrk HO438.out)) k_ hk, Kd.fresh' (Kd.R_lt (zrk HO442.out)) k_ hk⟩)); (case aO => exact (by (with_reducible repeat (first | apply Kd.R_alloc | apply Kd.R_drewN | apply Kd.R_drew)); exact Kd.R_mono HO_3.out (fun _ hk => ⟨hk.1.1.1.2, ⟨hk.1.1.2, ⟨hk.1.2, hk.2⟩⟩⟩))); (case aS => exact (below_size zq0)); (case aL => have := LMc37.out; omega); intro v444 w39 ho hb hg hat; rw [← Ny443.out] at ho; replace BK426 := zA (blk_grown (g := gb426) (o := .cells #[.int .i64 a0_0, .int .i64 a0_1, .int .i64 a0_2, .int .i64 a0_3, .slice (some ad428) l0_4.length c0_4] 26 (0, 0)) (zbk BK426.out) hg (Kd.R_ne HO_3.out BK426.out zq52)); replace BK429 := zA (blk_grown (g := gb429) (o := .cells #[.slice A428_0 ((rd_T116 l0_4 x18_1).f0).length c428_0, .int .i64 ((rd_T116 l0_4 x18_1).f1.f0), .int .i64 ((rd_T116 l0_4 x18_1).f1.f1), .string ((rd_T116 l0_4 x18_1).f1.f2), .slice A428_4 ((rd_T116 l0_4 x18_1).f1.f3).length c428_4] 116 (0, 0)) (zbk BK429.out) hg (Kd.R_ne HO_3.out BK429.out zq52)); replace HO432 := zA (Kd.R_after (ok := (fun k_ => some k_ ≠ (.slice Ao31 t433.length co31 : Value).ownBlock ∧ some k_ ≠ (.slice Ao33 t436.length co33 : Value).ownBlock ∧ some k_ ≠ (.slice Ao40 t439.length co40 : Value).ownBlock)) (by (with_reducible repeat (first | apply Kd.R_alloc | apply Kd.R_drewN | apply Kd.R_drew)); exact Kd.R_mono HO432.out (fun _ hk => ⟨⟨hk.1.1.2, ⟨hk.1.2, hk.2⟩⟩, hk.1.1.1.2⟩)) hg hat); replace HO435 := zA (Kd.R_after (ok := (fun k_ => some k_ ≠ (.slice Ao29 t430.length co29 : Value).ownBlock ∧ some k_ ≠ (.slice Ao33 t436.length co33 : Value).ownBlock ∧ some k_ ≠ (.slice Ao40 t439.length co40 : Value).ownBlock)) (by (with_reducible repeat (first | apply Kd.R_alloc | apply Kd.R_drewN | apply Kd.R_drew)); exact Kd.R_mono HO435.out (fun _ hk => ⟨⟨hk.1.1.2, ⟨hk.1.2, hk.2⟩⟩, hk.1.1.1.2⟩)) hg hat); replace HO438 := zA (Kd.R_after (ok := (fun k_ => some k_ ≠ (.slice Ao29 t430.length co29 : Value).ownBlock ∧ some k_ ≠ (.slice Ao31 t433.length co31 : Value).ownBlock ∧ some k_ ≠ (.slice Ao40 t439.length co40 : Value).ownBlock)) (by (with_reducible repeat (first | apply Kd.R_alloc | apply Kd.R_drewN | apply Kd.R_drew)); exact Kd.R_mono HO438.out (fun _ hk => ⟨⟨hk.1.1.2, ⟨hk.1.2, hk.2⟩⟩, hk.1.1.1.2⟩)) hg hat); replace HO442 := zA (Kd.R_after (ok := (fun k_ => some k_ ≠ (.slice Ao29 t430.length co29 : Value).ownBlock ∧ some k_ ≠ (.slice Ao31 t433.length co31 : Value).ownBlock ∧ some k_ ≠ (.slice Ao33 t436.length co33 : Value).ownBlock)) (by (with_reducible repeat (first | apply Kd.R_alloc | apply Kd.R_drewN | apply Kd.R_drew)); exact Kd.R_mono HO442.out (fun _ hk => ⟨⟨hk.1.1.2, ⟨hk.1.2, hk.2⟩⟩, hk.1.1.1.2⟩)) hg hat); replace HB := zA (hb); have HO445 := zA (ho); clear HO_3; clear ho hb hg hat))
      (try simp only [zvs])
      (try (rw [drewN_self w39]; generalize hq_ : World.drewN w39 _ = w39; replace HO432 := zA (Kd.R_at hq_ HO432.out); replace HO435 := zA (Kd.R_at hq_ HO435.out); replace HO438 := zA (Kd.R_at hq_ HO438.out); replace HO442 := zA (Kd.R_at hq_ HO442.out); replace HO445 := zA (Kd.R_at hq_ HO445.out); replace BK426 := zA (blk_at hq_ BK426.out); replace BK429 := zA (blk_at hq_ BK429.out); replace HB := zA (below_at hq_ HB.out); clear hq_))
      have H' := H; clear H
      go_wp2
      go_roundg k1
      case measure => have := HK1.out; omega
      case rel => exact ⟨(y443), (wrap64 (x18_1 + 1)), zq15, H', ⟨zq182⟩, ⟨(by (with_reducible repeat (first | apply Kd.R_alloc | apply Kd.R_drewN | apply Kd.R_drew)); exact Kd.R_mono HO445.out (fun _ hk => trivial))⟩, ⟨(zbk BK426.out)⟩, ⟨zq0⟩⟩
     go_upto_region 9 with fail
     obtain rfl := zi H
     go_wp2
     go_ret
     exact ⟨_, zq1, zq7, zq0⟩
    go_upto_region 12 with fail
    replace H := zB H; obtain ⟨⟨t446, t447⟩, A43, H⟩ := H
    try dsimp only at H
    obtain ⟨Ao45, co45, eo45⟩ := Kd.R_slice HO_3.out
    subst eo45
    go_upto_region 13 with (first | ((with_reducible refine zg106 rfl ?_); refine zl106 (some 41) #[.int .i64 48, .slice Ao45 x3_1.length co45] ?_; (with_reducible refine (impl_tlv.calls k1 48 _ _ x3_1 t446 t447 _ ?side1 ?side2 A43.out).mono ?_); (case side1 => exact zq138); (case side2 => exact (Kd.R_reads' HO_3.out).2.1); rintro e w46 ⟨v448, rfl, ho0, hb⟩; refine ⟨_, rfl, ?_⟩; have HO449 := zA (Kd.R_lower (Kd.R_new' ho0 (Kd.R_lt zq8)) (below_size zq0)); replace HO_3 := zA (Kd.R_elder' zq8 (Kd.R_base ho0) hb); replace BK426 := zA (zbb BK426.out hb); replace HB := zA (below_step zq0 hb); clear hb ho0))
    (try simp only [zvs])
    replace H := zE H; rcases H with ⟨rfl, H⟩ | ⟨rfl, H⟩
    ·go_upto_region 15 with fail
     replace H := zB H; obtain ⟨t450, A49, H⟩ := H
     try dsimp only at H
     replace H := zB H; obtain ⟨t453, A50, H⟩ := H
     try dsimp only at H
     replace H := zB H; obtain ⟨t456, A51, H⟩ := H
     try dsimp only at H
     replace H := zN H; obtain ⟨c52, H⟩ := H
     have LMc52 := zA c52
     clear c52
     obtain ⟨y459, hy459⟩ : ∃ y_ : List Int, y_ = (t456 ++ t446) := ⟨_, rfl⟩
     rw [← hy459] at H
     have Ny459 := zA hy459
     clear hy459
     replace H := zB H; obtain ⟨⟨t462, t463⟩, A53, H⟩ := H
     try dsimp only at H
     try go_wp2
     replace HO_3 := zA (Kd.R_drew HO_3.out)
     replace HO449 := zA (Kd.R_drew HO449.out)
     replace BK426 := zA (blk_drew BK426.out)
     replace HB := zA (below_drew1 HB.out)
     refine start_ (n := 19) (S := fun w' => w'.cell? ⟨gb426, 0, none⟩ = some (.int .i64 a0_0) ∧ w'.cell? ⟨gb426, 1, none⟩ = some (.int .i64 a0_1) ∧ w'.cell? ⟨gb426, 2, none⟩ = some (.int .i64 a0_2) ∧ w'.cell? ⟨gb426, 3, none⟩ = some (.int .i64 a0_3) ∧ w'.cell? ⟨gb426, 4, none⟩ = some (.slice A0_4 l0_4.length c0_4)) (ds := []) (zv 19 0) (by kernel_rfl) rfl rfl (zd5 BK426.out) (fun hHeld => ?_); refine with_tabW impl_PutPdu.tab15 impl_PutPdu.bits15 (fun HT_ HW_ => ?_)
     generalize w46.drew = w55 at HO_3 HO449 BK426 HB hHeld ⊢
     refine zyt 0 47 (zv 19 1) ?_
     refine zyt 2 49 (zv 19 5) ?_
     refine zyt 5 52 (zv 19 37) ?_
     refine zyt 8 55 (zv 19 293) ?_
     refine zyt 11 58 (zv 19 2341) ?_
     refine take_ (i := 1) (N := some 48) (v := ?_) (a' := ?_) (zv 19 2343) rfl rfl (take_ofW HT_.out HW_.out (by kernel_rfl)) (fun _ _ _ h => h) (Or.inl ⟨zq94, ?_⟩) hHeld ?_ ?_
     rotate_left
     ·rintro w' ⟨s0, s1, s2, s3, s4⟩
      go_simp
      with_reducible rfl
     rotate_left
     ·simp only [zvs, i64_w, i32_w]
      rfl
     refine take_ (i := 3) (N := some 50) (v := ?_) (a' := ?_) (zv 19 2351) rfl rfl (take_ofW HT_.out HW_.out (by kernel_rfl)) (fun _ _ _ h => h) (Or.inl ⟨zq94, ?_⟩) hHeld ?_ ?_
     rotate_left
     ·rintro w' ⟨s0, s1, s2, s3, s4⟩
      go_simp
      with_reducible rfl
     rotate_left
     ·simp only [zvs, i64_w, i32_w]
      rfl
     refine take_ (i := 6) (N := some 53) (v := ?_) (a' := ?_) (zv 19 2415) rfl rfl (take_ofW HT_.out HW_.out (by kernel_rfl)) (fun _ _ _ h => h) (Or.inl ⟨zq94, ?_⟩) hHeld ?_ ?_
     rotate_left
     ·rintro w' ⟨s0, s1, s2, s3, s4⟩
      go_simp
      with_reducible rfl
     rotate_left
     ·simp only [zvs, i64_w, i32_w]
      rfl
     refine take_ (i := 9) (N := some 56) (v := ?_) (a' := ?_) (zv 19 2927) rfl rfl (take_ofW HT_.out HW_.out (by kernel_rfl)) (fun _ _ _ h => h) (Or.inl ⟨zq94, ?_⟩) hHeld ?_ ?_
     rotate_left
     ·rintro w' ⟨s0, s1, s2, s3, s4⟩
      go_simp
      with_reducible rfl
     rotate_left
     ·simp only [zvs, i64_w, i32_w]
      rfl
     refine one_ (i := 4) (N := some 51) (zv 19 2943) rfl rfl (one_of HT_.out (by kernel_rfl)) zq52 (fun K hK => ?_)
     refine goes_ Try.func109 (by kernel_rfl) rfl #[.slice none 0 0, .int .i64 2, .int .i64 a0_1] zq94 rfl rfl zq20 ?_
     refine (impl_addNum.calls k1 _ _ ([] : List Int) 2 a0_1 t450 _ ?side1 ?side2 A49.out).mono ?_
     (case side1 => exact Kd.C_nil _ _)
     (case side2 => exact Nat.le_refl _)
     rintro e w56 ⟨v451, rfl, ho0, hb⟩
     refine ⟨_, rfl, ?_⟩
     have HO452 := zA (Kd.R_lower (Kd.R_new' (Kd.R_new' ho0 (Kd.R_lt zq8)) (Kd.R_lt (zrk HO449.out))) (below_size zq0))
     replace HO_3 := zA (Kd.R_elder' zq8 (Kd.R_base ho0) hb)
     replace HO449 := zA (Kd.R_elder' (zrk HO449.out) (Kd.R_base ho0) hb)
     replace BK426 := zA (zbb BK426.out hb)
     replace HB := zA (below_step zq0 hb)
     (try clear hb)
     (try clear hb2)
     (try clear hk)
     (try clear hi)
     (try clear ho0)
     obtain ⟨Ao57, co57, eo57⟩ := Kd.R_slice HO452.out
     (first | subst eo57 | (injection eo57 with f1_ f2_ f3_; have f4_ := f1_.symm; have f5_ := f3_.symm; clear f1_ f2_ f3_; subst f4_; subst f5_))
     refine hK.out _ _ (zd5 BK426.out) (fun hHeld => ?_)
     clear hK K
     refine norm_ (a' := ?_) ?_ ?_
     rotate_left
     ·show Act.put _ (some 51) _ = _
      simp only [zvs, i64_w, i32_w]
      rfl
     refine one_ (i := 7) (N := some 54) (zv 19 3071) rfl rfl (one_of HT_.out (by kernel_rfl)) zq52 (fun K hK => ?_)
     refine goes_ Try.func109 (by kernel_rfl) rfl #[.slice Ao57 t450.length co57, .int .i64 2, .int .i64 a0_2] zq94 rfl rfl zq20 ?_
     with_reducible refine (impl_addNum.calls k1 _ _ t450 2 a0_2 t453 _ ?side1 ?side2 A50.out).mono ?_
     (case side1 => exact (zck (Kd.R_reads' HO452.out).2.2))
     (case side2 => exact (Kd.R_reads' HO452.out).2.1)
     rintro e w58 ⟨v454, rfl, ho0, hb⟩
     refine ⟨_, rfl, ?_⟩
     have HO455 := zA (Kd.R_lower (Kd.R_new' (Kd.R_new' (Kd.R_new' ho0 (Kd.R_lt zq8)) (Kd.R_lt (zrk HO449.out))) (Kd.R_lt (zrk HO452.out))) (below_size zq0))
     replace HO_3 := zA (Kd.R_elder' zq8 (Kd.R_base ho0) hb)
     replace HO449 := zA (Kd.R_elder' (zrk HO449.out) (Kd.R_base ho0) hb)
     replace HO452 := zA (Kd.R_elder' (zrk HO452.out) (Kd.R_base ho0) hb)
     replace BK426 := zA (zbb BK426.out hb)
     replace HB := zA (below_step zq0 hb)
     (try clear hb)
     (try clear hb2)
     (try clear hk)
     (try clear hi)
     (try clear ho0)
     obtain ⟨Ao59, co59, eo59⟩ := Kd.R_slice HO455.out
     (first | subst eo59 | (injection eo59 with f1_ f2_ f3_; have f4_ := f1_.symm; have f5_ := f3_.symm; clear f1_ f2_ f3_; subst f4_; subst f5_))
     refine hK.out _ _ (zd5 BK426.out) (fun hHeld => ?_)
     clear hK K
     refine norm_ (a' := ?_) ?_ ?_
     rotate_left
     ·show Act.put _ (some 54) _ = _
      simp only [zvs, i64_w, i32_w]
      rfl
     refine one_ (i := 10) (N := some 57) (zv 19 4095) rfl rfl (one_of HT_.out (by kernel_rfl)) zq52 (fun K hK => ?_)
     refine goes_ Try.func109 (by kernel_rfl) rfl #[.slice Ao59 t453.length co59, .int .i64 2, .int .i64 a0_3] zq94 rfl rfl zq20 ?_
     with_reducible refine (impl_addNum.calls k1 _ _ t453 2 a0_3 t456 _ ?side1 ?side2 A51.out).mono ?_
     (case side1 => exact (zck (Kd.R_reads' HO455.out).2.2))
     (case side2 => exact (Kd.R_reads' HO455.out).2.1)
     rintro e w60 ⟨v457, rfl, ho0, hb⟩
     refine ⟨_, rfl, ?_⟩
     have HO458 := zA (Kd.R_lower (Kd.R_new' (Kd.R_new' (Kd.R_new' (Kd.R_new' ho0 (Kd.R_lt zq8)) (Kd.R_lt (zrk HO449.out))) (Kd.R_lt (zrk HO452.out))) (Kd.R_lt (zrk HO455.out))) (below_size zq0))
     replace HO_3 := zA (Kd.R_elder' zq8 (Kd.R_base ho0) hb)
     replace HO449 := zA (Kd.R_elder' (zrk HO449.out) (Kd.R_base ho0) hb)
     replace HO452 := zA (Kd.R_elder' (zrk HO452.out) (Kd.R_base ho0) hb)
     replace HO455 := zA (Kd.R_elder' (zrk HO455.out) (Kd.R_base ho0) hb)
     replace BK426 := zA (zbb BK426.out hb)
     replace HB := zA (below_step zq0 hb)
     (try clear hb)
     (try clear hb2)
     (try clear hk)
     (try clear hi)
     (try clear ho0)
     obtain ⟨Ao62, co62, eo62⟩ := Kd.R_slice HO449.out
     (first | subst eo62 | (injection eo62 with f1_ f2_ f3_; have f4_ := f1_.symm; have f5_ := f3_.symm; clear f1_ f2_ f3_; subst f4_; subst f5_))
     refine hK.out _ _ (zd5 BK426.out) (fun hHeld => ?_)
     clear hK K
     refine norm_ (a' := ?_) ?_ ?_
     rotate_left
     ·show Act.put _ (some 57) _ = _
      simp only [zvs, i64_w, i32_w]
      rfl
     refine one_ (i := 12) (N := some 59) (zv 19 8191) rfl rfl (one_of HT_.out (by kernel_rfl)) zq52 (fun K hK => ?_)
     refine Kd.R_append_rows_step (Kd.int .u8) (w0 := w) w.heap.size zq94 (.tmp 57) (.tmp 58) 22 5 (.int .u8 0) 1 rfl Try.underlying22 info5 rfl zq52 zq183 v457 t456 t446 _ _ _ (fun k_ => some k_ ≠ (.slice Ao45 x3_1.length co45 : Value).ownBlock ∧ some k_ ≠ (.slice Ao62 t446.length co62 : Value).ownBlock ∧ some k_ ≠ (.slice Ao57 t450.length co57 : Value).ownBlock ∧ some k_ ≠ (.slice Ao59 t453.length co59 : Value).ownBlock) (fun _ => False) rfl rfl ?aO ?aR (fun _ _ h => h) (fun _ h => h.elim) ?aF ?aB ?aS ?aL ?_
     (case aR => exact (zck (Kd.R_reads' HO449.out).2.2))
     (case aB => exact zq0)
     (case aF => exact (fun k_ hk => ⟨Kd.fresh' (Kd.R_lt zq8) k_ hk, Kd.fresh' (Kd.R_lt (zrk HO449.out)) k_ hk, Kd.fresh' (Kd.R_lt (zrk HO452.out)) k_ hk, Kd.fresh' (Kd.R_lt (zrk HO455.out)) k_ hk⟩))
     (case aO => exact (by (with_reducible repeat (first | apply Kd.R_alloc | apply Kd.R_drewN | apply Kd.R_drew)); exact Kd.R_mono HO458.out (fun _ hk => ⟨hk.1.1.1.2, ⟨hk.1.1.2, ⟨hk.1.2, hk.2⟩⟩⟩)))
     (case aS => exact (below_size zq0))
     (case aL => have := LMc52.out; omega)
     intro v460 w61 ho hb hg hat
     rw [← Ny459.out] at ho
     replace HO_3 := zA (Kd.R_after (ok := (fun k_ => some k_ ≠ (.slice Ao62 t446.length co62 : Value).ownBlock ∧ some k_ ≠ (.slice Ao57 t450.length co57 : Value).ownBlock ∧ some k_ ≠ (.slice Ao59 t453.length co59 : Value).ownBlock)) (by (with_reducible repeat (first | apply Kd.R_alloc | apply Kd.R_drewN | apply Kd.R_drew)); exact Kd.R_mono HO_3.out (fun _ hk => ⟨⟨hk.1.1.1.2, ⟨hk.1.1.2, hk.1.2⟩⟩, hk.2⟩)) hg hat)
     replace BK426 := zA (blk_grown (g := gb426) (o := .cells #[.int .i64 a0_0, .int .i64 a0_1, .int .i64 a0_2, .int .i64 a0_3, .slice A0_4 l0_4.length c0_4] 26 (0, 0)) (zbk BK426.out) hg (Kd.R_ne HO458.out BK426.out zq52))
     replace HO449 := zA (Kd.R_after (ok := (fun k_ => some k_ ≠ (.slice Ao45 x3_1.length co45 : Value).ownBlock ∧ some k_ ≠ (.slice Ao57 t450.length co57 : Value).ownBlock ∧ some k_ ≠ (.slice Ao59 t453.length co59 : Value).ownBlock)) (by (with_reducible repeat (first | apply Kd.R_alloc | apply Kd.R_drewN | apply Kd.R_drew)); exact Kd.R_mono HO449.out (fun _ hk => ⟨⟨hk.1.1.1.2, ⟨hk.1.1.2, hk.1.2⟩⟩, hk.2⟩)) hg hat)
     replace HO452 := zA (Kd.R_after (ok := (fun k_ => some k_ ≠ (.slice Ao45 x3_1.length co45 : Value).ownBlock ∧ some k_ ≠ (.slice Ao62 t446.length co62 : Value).ownBlock ∧ some k_ ≠ (.slice Ao59 t453.length co59 : Value).ownBlock)) (by (with_reducible repeat (first | apply Kd.R_alloc | apply Kd.R_drewN | apply Kd.R_drew)); exact Kd.R_mono HO452.out (fun _ hk => ⟨⟨hk.1.1.1.2, ⟨hk.1.1.2, hk.1.2⟩⟩, hk.2⟩)) hg hat)
     replace HO455 := zA (Kd.R_after (ok := (fun k_ => some k_ ≠ (.slice Ao45 x3_1.length co45 : Value).ownBlock ∧ some k_ ≠ (.slice Ao62 t446.length co62 : Value).ownBlock ∧ some k_ ≠ (.slice Ao57 t450.length co57 : Value).ownBlock)) (by (with_reducible repeat (first | apply Kd.R_alloc | apply Kd.R_drewN | apply Kd.R_drew)); exact Kd.R_mono HO455.out (fun _ hk => ⟨⟨hk.1.1.1.2, ⟨hk.1.1.2, hk.1.2⟩⟩, hk.2⟩)) hg hat)
     replace HB := zA (hb)
     have HO461 := zA (ho)
     clear HO458
     clear ho hb hg hat
     obtain ⟨Ao63, co63, eo63⟩ := Kd.R_slice HO461.out
     (first | subst eo63 | (injection eo63 with f1_ f2_ f3_; have f4_ := f1_.symm; have f5_ := f3_.symm; clear f1_ f2_ f3_; subst f4_; subst f5_))
     refine hK.out _ _ (zd5 BK426.out) (fun hHeld => ?_)
     clear hK K
     refine norm_ (a' := ?_) ?_ ?_
     rotate_left
     ·show Act.put _ (some 59) _ = _
      simp only [zvs, i64_w, i32_w]
      rfl
     refine one_ (i := 13) (N := some 60) (zv 19 16383) rfl rfl (one_of HT_.out (by kernel_rfl)) zq52 (fun K hK => ?_)
     refine goes_ Try.func106 (by kernel_rfl) rfl #[.int .i64 a0_0, .slice Ao63 y459.length co63] zq94 rfl rfl zq20 ?_
     with_reducible refine (impl_tlv.calls k1 a0_0 _ _ y459 t462 t463 _ ?side1 ?side2 A53.out).mono ?_
     (case side1 => exact (zck (Kd.R_reads' HO461.out).2.2))
     (case side2 => exact (Kd.R_reads' HO461.out).2.1)
     rintro e w64 ⟨v464, rfl, ho0, hb⟩
     refine ⟨_, rfl, ?_⟩
     have HO465 := zA (Kd.R_lower (Kd.R_new' (Kd.R_new' (Kd.R_new' (Kd.R_new' (Kd.R_new' ho0 (Kd.R_lt zq8)) (Kd.R_lt (zrk HO449.out))) (Kd.R_lt (zrk HO452.out))) (Kd.R_lt (zrk HO455.out))) (Kd.R_lt (zrk HO461.out))) (below_size zq0))
     replace HO_3 := zA (Kd.R_elder' zq8 (Kd.R_base ho0) hb)
     replace HO449 := zA (Kd.R_elder' (zrk HO449.out) (Kd.R_base ho0) hb)
     replace HO452 := zA (Kd.R_elder' (zrk HO452.out) (Kd.R_base ho0) hb)
     replace HO455 := zA (Kd.R_elder' (zrk HO455.out) (Kd.R_base ho0) hb)
     replace HO461 := zA (Kd.R_elder' (zrk HO461.out) (Kd.R_base ho0) hb)
     replace BK426 := zA (zbb BK426.out hb)
     replace HB := zA (below_step zq0 hb)
     (try clear hb)
     (try clear hb2)
     (try clear hk)
     (try clear hi)
     (try clear ho0)
     refine hK.out _ _ (zd5 BK426.out) (fun hHeld => ?_)
     clear hK K
     refine norm_ (a' := ?_) ?_ ?_
     rotate_left
     ·show Act.put _ (some 60) _ = _
      simp only [zvs, i64_w, i32_w]
      rfl
     refine zyt 14 46 (zv 19 32767) ?_
     refine zyt 15 61 (zv 19 65535) ?_
     refine zyt 16 62 (zv 19 131071) ?_
     refine zyt 17 10 (zv 19 262143) ?_
     refine zyt 18 11 (zv 19 524287) ?_
     refine done_ (done_of HT_.out (by kernel_rfl)) ?_
     go_upto_region 16 with fail
     replace H := zE H; rcases H with ⟨rfl, H⟩ | ⟨rfl, H⟩
     ·go_upto_region 18 with fail
      obtain rfl := zi H
      go_wp2
      go_ret
      exact ⟨_, zq1, (by (with_reducible repeat (first | apply Kd.R_alloc | apply Kd.R_drewN | apply Kd.R_drew)); exact Kd.R_mono HO465.out (fun _ hk => trivial)), zq0⟩
     go_upto_region 17 with fail
     obtain rfl := zi H
     go_wp2
     go_ret
     exact ⟨_, zq1, zq7, zq0⟩
    go_upto_region 14 with fail
    obtain rfl := zi H
    go_wp2
    go_ret
    exact ⟨_, zq1, zq7, zq0⟩
 have hz70 := zc5 BK426.out
 go_upto_region 2 with (first | ((with_reducible refine zg24 rfl ?_); refine zl24 (some 13) #[.agg #[.int .i64 a0_0, .int .i64 a0_1, .int .i64 a0_2, .int .i64 a0_3, .slice A0_4 l0_4.length c0_4]] ?_; (with_reducible refine (impl_PduOk.calls k a0_0 a0_1 a0_2 a0_3 _ _ l0_4 false _ ?side1 ?side2 A5.out).mono ?_); (case side1 => exact zq102); (case side2 => exact HC0_4.out); rintro e w71 ⟨rfl, hb⟩; refine ⟨_, rfl, ?_⟩; replace BK426 := zA (zbb BK426.out hb); replace HB := zA (below_step zq0 hb); clear hb))
 (try simp only [zvs])
 obtain rfl := zi H
 go_wp2
 go_ret
 exact ⟨_, zq1, zq7, zq0⟩

end Go.Proofs.Ytkcgghgkmgbphaa.PFnMsgs
