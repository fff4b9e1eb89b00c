-- WRITTEN BY a turned copy of the kit's printer (wip/patch_print.py), for this claim
import Derived.Test.YtkcgghgkmgbphaaPFnMsgsx0
import Derived.Test.YtkcgghgkmgbphaaPFnMsgsx12
import Derived.Test.YtkcgghgkmgbphaaPFnMsgsx15
import Derived.Test.YtkcgghgkmgbphaaPFnMsgsx19
namespace Go.Proofs.Ytkcgghgkmgbphaa.PFnMsgs
open Go.RowKit Go.Proofs.YtkcgghgkmgbphaaW.PrintWords Go.Proofs.YtkcgghgkmgbphaaW.PrintLast Go.Proofs.YtkcgghgkmgbphaaW.PrintMore
attribute [local go_sem] max2_int min2_int max_two min_two max_three min_three max_four min_four   -- for this text's walks alone
set_option linter.unusedVariables false
set_option linter.unusedSimpArgs false
set_option maxHeartbeats 8000000
set_option maxRecDepth 100000

attribute [local go_sem] cell_setCell_m
/-! ### spec_DrawPutMsg: function 97 -/
def spec_DrawPutMsg.f (k : Nat) (l0 : List Int) : Option (ByteArray × Int × Int × Int × Int × (List (S116))) := (spec_l1New.f k l0).bind fun bt711 => ((spec_l1Str.f bt711.1 bt711.2.1 bt711.2.2 (([(⟨#[121, 97, 114, 100]⟩ : ByteArray), (⟨#[]⟩ : ByteArray), (⟨#[111, 112, 101, 110]⟩ : ByteArray), (⟨#[116, 119, 101, 110, 116, 121, 45, 111, 110, 101, 45, 98, 121, 116, 101, 115, 45, 116, 101, 120, 116]⟩ : ByteArray)] : List ByteArray))).bind fun bt718 => ((spec_l4Any.f k bt711.1 bt718.2.1 bt718.2.2).bind fun bt721 => (some (bt718.1, bt721.1, bt721.2.1, bt721.2.2.1, bt721.2.2.2.1, bt721.2.2.2.2.1))))
theorem spec_DrawPutMsg.mono : ∀ a0 k, LeO (spec_DrawPutMsg.f k a0) (spec_DrawPutMsg.f (k + 1) a0) := by
 intro a0 k
 unfold spec_DrawPutMsg.f
 have m0_ := @spec_l1New.mono
 have m1_ := @spec_l4Any.mono
 exact zR
theorem spec_DrawPutMsg.calls (k : Nat) (A0 : Option Addr) (c0 : Nat) (l0 : List Int) (r1 : ByteArray) (r2 : Int) (r3 : Int) (r4 : Int) (r5 : Int) (r6 : List (S116)) (w : World) (hr0 : Kd.C (Kd.int .u8) w A0 l0.length l0) (hc0 : l0.length ≤ c0) (h : spec_DrawPutMsg.f k l0 = some (r1, r2, r3, r4, r5, r6)) :
  Calls Try.prog 97 #[.slice A0 l0.length c0] w fun e w' => ∃ v5_ : Value, e = .returned (.tuple #[.string r1, .agg #[.int .i64 r2, .int .i64 r3, .int .i64 r4, .int .i64 r5, v5_]]) ∧ Kd.S k116 116 w' w.heap.size (fun _ => True) v5_ r6 ∧ Below w.heap.size w w' := by
 have hu26 := Try.underlying26
 have HR0 := zA hr0
 have HC0 := zA hc0
 clear hr0 hc0
 have HB := zA (Below.refl w.heap.size w)
 unfold spec_DrawPutMsg.f at h
 have H := zA h
 clear h
 go_enter Try.func97, Try.ntmps97
 go_upto_region 0 with fail
 go_upto_region 1 with (first | ((with_reducible refine gate_dst (N := 3) rfl ?_); refine box_event ?hg (N := 3) ?hd (cs := #[.int .i64 0, .int .i64 0, .int .i64 0, .int .i64 0, .slice none 0 0]) (t := 26) ?hr ?_; (case hd => rfl); (case hg => rfl); (case hr => exact zgs); intro gb710 hg w4 hbox hb; have BK710 := zA (hbox); have GW710 := zA ((zq5 : w.heap.size ≤ gb710)); have GE710 := zA ((zq5 : w.heap.size ≤ gb710)); replace HB := zA (below_step zq0 hb); clear hb hbox hg))
 (try simp only [zvs])
 replace H := zB H; obtain ⟨⟨t711, t712, t713⟩, A5, H⟩ := H
 try dsimp only at H
 go_upto_region 2 with (first | ((with_reducible refine zg104 rfl ?_); refine zl104 (some 6) #[.slice A0 l0.length c0] ?_; (with_reducible refine (spec_l1New.calls k _ _ l0 t711 t712 t713 w _ ?side1 ?side2 ?side3 A5.out).mono ?_); (case side1 => exact zq0); (case side2 => exact HR0.out); (case side3 => exact HC0.out); rintro e w7 ⟨g714, rfl, hi, hb, hb2⟩; refine ⟨_, rfl, ?_⟩; replace HB := zA (hb); have HI714 := zA (hi); have NB714_710 := zA (IsS170.ne_blk hi (zbb BK710.out hb2) zq52); have NB710_714 := zA (Ne.symm (IsS170.ne_blk hi (zbb BK710.out hb2) zq52)); replace BK710 := zA (zbb BK710.out hb2); clear hb hb2 hi))
 (try simp only [zvs])
 obtain ⟨y715, hy715⟩ : ∃ y_ : List ByteArray, y_ = (([(⟨#[121, 97, 114, 100]⟩ : ByteArray), (⟨#[]⟩ : ByteArray), (⟨#[111, 112, 101, 110]⟩ : ByteArray), (⟨#[116, 119, 101, 110, 116, 121, 45, 111, 110, 101, 45, 98, 121, 116, 101, 115, 45, 116, 101, 120, 116]⟩ : ByteArray)] : List ByteArray)) := ⟨_, rfl⟩
 rw [← hy715] at H
 have Ny715 := zA hy715
 clear hy715
 replace H := zB H; obtain ⟨⟨t718, t719, t720⟩, A8, H⟩ := H
 try dsimp only at H
 replace H := zB H; obtain ⟨⟨t721, t722, t723, t724, t725, t728, t729⟩, A9, H⟩ := H
 try dsimp only at H
 obtain ⟨rfl, rfl, rfl, rfl, rfl, rfl⟩ := zt6 H
 go_wp2_with (first | ((with_reducible refine gate_dst (N := 8) rfl ?_); refine Kd.R_lit Kd.string _ 9 ?hg (N := 8) ?hd (xs := ([(⟨#[121, 97, 114, 100]⟩ : ByteArray), (⟨#[]⟩ : ByteArray), (⟨#[111, 112, 101, 110]⟩ : ByteArray), (⟨#[116, 119, 101, 110, 116, 121, 45, 111, 110, 101, 45, 98, 121, 116, 101, 115, 45, 116, 101, 120, 116]⟩ : ByteArray)] : List ByteArray)) (inner := [.string (⟨#[121, 97, 114, 100]⟩ : ByteArray), .string (⟨#[]⟩ : ByteArray), .string (⟨#[111, 112, 101, 110]⟩ : ByteArray), .string (⟨#[116, 119, 101, 110, 116, 121, 45, 111, 110, 101, 45, 98, 121, 116, 101, 115, 45, 116, 101, 120, 116]⟩ : ByteArray)]) (ok := fun _ => True) (okp := fun _ => True) ?hr ?hp (fun _ hk => hk) trivial (Below.refl _ _) (Nat.le_refl _) zq219 ?_; (case hd => rfl); (case hg => rfl); (case hr => exact zgs); (case hp => exact (Reps.one (show Kd.M Kd.string _ _ _ (⟨#[121, 97, 114, 100]⟩ : ByteArray) [.string (⟨#[121, 97, 114, 100]⟩ : ByteArray)] from rfl) (Reps.one (show Kd.M Kd.string _ _ _ (⟨#[]⟩ : ByteArray) [.string (⟨#[]⟩ : ByteArray)] from rfl) (Reps.one (show Kd.M Kd.string _ _ _ (⟨#[111, 112, 101, 110]⟩ : ByteArray) [.string (⟨#[111, 112, 101, 110]⟩ : ByteArray)] from rfl) (Reps.one (show Kd.M Kd.string _ _ _ (⟨#[116, 119, 101, 110, 116, 121, 45, 111, 110, 101, 45, 98, 121, 116, 101, 115, 45, 116, 101, 120, 116]⟩ : ByteArray) [.string (⟨#[116, 119, 101, 110, 116, 121, 45, 111, 110, 101, 45, 98, 121, 116, 101, 115, 45, 116, 101, 120, 116]⟩ : ByteArray)] from rfl) (Reps.none _ _)))))); intro v716 w10 ho11 hb hg_ hnew_; clear hg_ hnew_; (first | rw [← Ny715.out] at ho11 | (simp only [Int.reduceToNat] at ho11; rw [← Ny715.out] at ho11)); have HO717 := zA (Kd.R_lower ho11 (below_size zq105)); replace BK710 := zA (zbb BK710.out hb); replace HB := zA (below_step zq105 hb); replace HI714 := zA (IsS170.below zq111 hb); clear hb ho11; obtain ⟨Ao12, co12, eo12⟩ := Kd.R_slice HO717.out; subst eo12) | ((with_reducible refine zg176 rfl ?_); refine zl176 (some 9) #[.pointer (some ⟨g714, 0, none⟩), .slice Ao12 y715.length co12] ?_; (with_reducible refine (spec_l1Str.calls g714 t711 t712 t713 _ _ y715 t718 t719 t720 w _ ?side1 ?side2 ?side3 ?side4 ?side5 A8.out).mono ?_); (case side1 => exact zq111); (case side2 => exact zq105); (case side3 => exact (zck (Kd.R_reads' HO717.out).2.2)); (case side4 => exact (Kd.R_reads' HO717.out).2.1); (case side5 => exact far_slice (IsS170.own_ne HI714.out HO717.out zq52)); rintro e w13 ⟨rfl, hi, hb, hk⟩; refine ⟨_, rfl, ?_⟩; replace BK710 := zA (zkb hk BK710.out NB710_714.out); replace HO717 := zA (Kd.R_mono (Kd.R_keep (IsS170.apart (show IsS170 w _ g714 t711 t712 t713 from zq111) (zrk HO717.out) zq52) hk (fun _ h => h.2)) (fun _ h => h.1)); replace HB := zA (hb); replace HI714 := zA (hi); clear hb hk hi) | ((with_reducible refine zg105 rfl ?_); refine zl105 (some 11) #[.pointer (some ⟨g714, 0, none⟩)] ?_; (with_reducible refine (spec_l4Any.calls k g714 t711 t719 t720 t721 t722 t723 t724 t725 t728 t729 w _ ?side1 ?side2 A9.out).mono ?_); (case side1 => exact zq111); (case side2 => exact zq105); rintro e w14 ⟨v726, rfl, ho0, hi, hb, hk⟩; refine ⟨_, rfl, ?_⟩; replace BK710 := zA (zkb hk BK710.out NB710_714.out); replace HO717 := zA (Kd.R_mono (Kd.R_keep (IsS170.apart (show IsS170 w _ g714 t711 t719 t720 from zq111) (zrk HO717.out) zq52) hk (fun _ h => h.2)) (fun _ h => h.1)); have HO727 := zA (Kd.S_lower ho0 (below_size zq105)); replace HB := zA (hb); replace HI714 := zA (hi); clear hb hk hi ho0; have hn15 := zn NB710_714; have hz16 := zc5 BK710.out; obtain ⟨Ao17, co17, eo17⟩ := Kd.S_slice HO727.out; subst eo17))
 refine bodyPost_ret (results_tc rfl _ _ gb710 26 #[.int .i64 t721, .int .i64 t722, .int .i64 t723, .int .i64 t724, .slice Ao17 t725.length co17] (0, 0) _ rfl (zbp BK710.out) Try.underlying26 rfl (by kernel_rfl)) rfl ?_
 exact ⟨_, zq1, (by (with_reducible repeat (first | apply Kd.S_alloc | apply Kd.S_drewN | apply Kd.S_drew)); exact Kd.S_mono (Kd.S_far (p := ⟨gb710, 4, none⟩) (Kd.S_far (p := ⟨gb710, 3, none⟩) (Kd.S_far (p := ⟨gb710, 2, none⟩) (Kd.S_far (p := ⟨gb710, 1, none⟩) (Kd.S_far (p := ⟨gb710, 0, none⟩) (Kd.S_types HO727.out BK710.out zq52) (fun _ hk => hk.2) (.int .i64 t721)) (fun _ hk => hk.2) (.int .i64 t722)) (fun _ hk => hk.2) (.int .i64 t723)) (fun _ hk => hk.2) (.int .i64 t724)) (fun _ hk => hk.2) (.slice Ao17 t725.length co17)) (fun _ hk => trivial)), zq105⟩

/-! ### impl_GetTlv: function 112 -/
def impl_GetTlv.f (l0 : List Int) (a1 : Int) : Option (Int × List Int × Int × Bool) := if a1 < 0 then (some (0, ([] : List Int), 0, false)) else (if a1 > (wrap64 ((l0.length : Int) - 2)) then (some (0, ([] : List Int), 0, false)) else (if 0 ≤ (wrap64 (a1 + 1)) then (if (wrap64 (a1 + 1)) < (l0.length : Int) then (if (wrap64 (rd l0 (wrap64 (a1 + 1)))) ≥ 128 then (if (wrap64 (rd l0 (wrap64 (a1 + 1)))) = 129 then (if (wrap64 (a1 + 2)) ≥ (l0.length : Int) then (some (0, ([] : List Int), 0, false)) else (if 0 ≤ (wrap64 (a1 + 2)) then (if (wrap64 (a1 + 2)) < (l0.length : Int) then (if (rd l0 (wrap64 (a1 + 2))) < 128 then (some (0, ([] : List Int), 0, false)) else (if (wrap64 (rd l0 (wrap64 (a1 + 2)))) > 250 then (some (0, ([] : List Int), 0, false)) else (if (wrap64 (rd l0 (wrap64 (a1 + 2)))) > (wrap64 ((l0.length : Int) - (wrap64 ((wrap64 (a1 + 2)) + 1)))) then (some (0, ([] : List Int), 0, false)) else (if 0 ≤ a1 then (if a1 < (l0.length : Int) then (if 0 ≤ (wrap64 ((wrap64 (a1 + 2)) + 1)) then (if (wrap64 ((wrap64 (a1 + 2)) + 1)) ≤ (wrap64 ((wrap64 ((wrap64 (a1 + 2)) + 1)) + (wrap64 (rd l0 (wrap64 (a1 + 2)))))) then (if (wrap64 ((wrap64 ((wrap64 (a1 + 2)) + 1)) + (wrap64 (rd l0 (wrap64 (a1 + 2)))))) ≤ (l0.length : Int) then ((impl_copyBytes.f ((l0.take ((wrap64 ((wrap64 ((wrap64 (a1 + 2)) + 1)) + (wrap64 (rd l0 (wrap64 (a1 + 2)))))) : Int).toNat).drop ((wrap64 ((wrap64 (a1 + 2)) + 1)) : Int).toNat)).bind fun t735 => (some (wrap64 (rd l0 a1), t735, wrap64 ((wrap64 ((wrap64 (a1 + 2)) + 1)) + (wrap64 (rd l0 (wrap64 (a1 + 2))))), true))) else (none)) else (none)) else (none)) else (none)) else (none))))) else (none)) else (none))) else (some (0, ([] : List Int), 0, false))) else (if (wrap64 (rd l0 (wrap64 (a1 + 1)))) > 250 then (some (0, ([] : List Int), 0, false)) else (if (wrap64 (rd l0 (wrap64 (a1 + 1)))) > (wrap64 ((l0.length : Int) - (wrap64 (a1 + 2)))) then (some (0, ([] : List Int), 0, false)) else (if 0 ≤ a1 then (if a1 < (l0.length : Int) then (if 0 ≤ (wrap64 (a1 + 2)) then (if (wrap64 (a1 + 2)) ≤ (wrap64 ((wrap64 (a1 + 2)) + (wrap64 (rd l0 (wrap64 (a1 + 1)))))) then (if (wrap64 ((wrap64 (a1 + 2)) + (wrap64 (rd l0 (wrap64 (a1 + 1)))))) ≤ (l0.length : Int) then ((impl_copyBytes.f ((l0.take ((wrap64 ((wrap64 (a1 + 2)) + (wrap64 (rd l0 (wrap64 (a1 + 1)))))) : Int).toNat).drop ((wrap64 (a1 + 2)) : Int).toNat)).bind fun t740 => (some (wrap64 (rd l0 a1), t740, wrap64 ((wrap64 (a1 + 2)) + (wrap64 (rd l0 (wrap64 (a1 + 1))))), true))) else (none)) else (none)) else (none)) else (none)) else (none))))) else (none)) else (none)))
def impl_GetTlv.T11 : Bool × List (List Nat × List Nat) := (true, [([], []), ([], []), ([0, 1], [0, 1]), ([2], [2]), ([3], [3]), ([], []), ([], []), ([], []), ([], []), ([7, 8], [7, 8]), ([5, 6, 9], [5, 6, 9]), ([10], [10]), ([], []), ([], []), ([12, 13], [12, 13]), ([4, 11, 0, 1, 2, 3, 4], [4]), ([11, 15, 0, 1, 2, 3, 4, 5, 6, 7, 8, 9, 10, 11, 15], [11]), ([14, 16, 0, 1, 2, 3, 4, 5, 6, 7, 8, 9, 10, 11, 12, 13, 14, 15, 16], [14]), ([17, 0, 1, 2, 3, 4, 5, 6, 7, 8, 9, 10, 11, 12, 13, 14, 15, 16, 17], [])])
def impl_GetTlv.B11 : List Nat := [0, 0, 3, 7, 15, 0, 0, 0, 0, 384, 992, 2016, 0, 0, 12288, 4095, 36863, 131071, 262143]
theorem impl_GetTlv.tab11 : rtab .any (opsOf Try.f112 11) = impl_GetTlv.T11 := by kernel_rfl
theorem impl_GetTlv.bits11 : waitsOk impl_GetTlv.T11.2 impl_GetTlv.B11 = true := by kernel_rfl
theorem impl_GetTlv.calls (A0 : Option Addr) (c0 : Nat) (l0 : List Int) (a1 : Int) (r1 : Int) (r2 : List Int) (r3 : Int) (r4 : Bool) (w : World) (hr0 : Kd.C (Kd.int .u8) w A0 l0.length l0) (hc0 : l0.length ≤ c0) (h : impl_GetTlv.f l0 a1 = some (r1, r2, r3, r4)) :
  Calls Try.prog 112 #[.slice A0 l0.length c0, .int .i64 a1] w fun e w' => ∃ v1_ : Value, e = .returned (.tuple #[.int .i64 r1, v1_, .int .i64 r3, .bool r4]) ∧ Kd.R (Kd.int .u8) 5 w' w.heap.size (fun _ => True) v1_ r2 ∧ Below w.heap.size w w' := by
 have HR0 := zA hr0
 have HC0 := zA hc0
 clear hr0 hc0
 have HB := zA (Below.refl w.heap.size w)
 unfold impl_GetTlv.f at h
 have H := zA h
 clear h
 go_enter Try.func112, Try.ntmps112
 go_upto_region 0 with fail
 go_upto_region 1 with fail
 replace H := zPd H; rcases H with ⟨c5b0, H⟩ | ⟨c5b0, H⟩
 ·go_upto_region 2 with fail
  obtain ⟨rfl, rfl, rfl, rfl⟩ := zt4 H
  go_wp2
  refine bodyPost_ret (results_list (rs := [.tmp 4, .tmp 5, .tmp 6, .tmp 7]) rfl zq219 (.tmp (.tmp (.tmp (.tmp .nil))))) rfl ?_
  exact ⟨_, zq1, zq7, zq0⟩
 replace H := zPd H; rcases H with ⟨c7b0, H⟩ | ⟨c7b0, H⟩
 ·go_upto_region 2 with fail
  obtain ⟨rfl, rfl, rfl, rfl⟩ := zt4 H
  go_wp2
  refine bodyPost_ret (results_list (rs := [.tmp 4, .tmp 5, .tmp 6, .tmp 7]) rfl zq219 (.tmp (.tmp (.tmp (.tmp .nil))))) rfl ?_
  exact ⟨_, zq1, zq7, zq0⟩
 go_upto_region 3 with fail
 obtain ⟨ji10, hji10⟩ : ∃ j_ : Int, (wrap64 (a1 + 1)) = j_ := ⟨_, rfl⟩
 replace H : Aside0 ((if 0 ≤ (ji10) then (if (ji10) < (l0.length : Int) then (if (wrap64 (rd l0 (ji10))) ≥ 128 then (if (wrap64 (rd l0 (ji10))) = 129 then (if (wrap64 (a1 + 2)) ≥ (l0.length : Int) then (some (0, ([] : List Int), 0, false)) else (if 0 ≤ (wrap64 (a1 + 2)) then (if (wrap64 (a1 + 2)) < (l0.length : Int) then (if (rd l0 (wrap64 (a1 + 2))) < 128 then (some (0, ([] : List Int), 0, false)) else (if (wrap64 (rd l0 (wrap64 (a1 + 2)))) > 250 then (some (0, ([] : List Int), 0, false)) else (if (wrap64 (rd l0 (wrap64 (a1 + 2)))) > (wrap64 ((l0.length : Int) - (wrap64 ((wrap64 (a1 + 2)) + 1)))) then (some (0, ([] : List Int), 0, false)) else (if 0 ≤ a1 then (if a1 < (l0.length : Int) then (if 0 ≤ (wrap64 ((wrap64 (a1 + 2)) + 1)) then (if (wrap64 ((wrap64 (a1 + 2)) + 1)) ≤ (wrap64 ((wrap64 ((wrap64 (a1 + 2)) + 1)) + (wrap64 (rd l0 (wrap64 (a1 + 2)))))) then (if (wrap64 ((wrap64 ((wrap64 (a1 + 2)) + 1)) + (wrap64 (rd l0 (wrap64 (a1 + 2)))))) ≤ (l0.length : Int) then ((impl_copyBytes.f ((l0.take ((wrap64 ((wrap64 ((wrap64 (a1 + 2)) + 1)) + (wrap64 (rd l0 (wrap64 (a1 + 2)))))) : Int).toNat).drop ((wrap64 ((wrap64 (a1 + 2)) + 1)) : Int).toNat)).bind fun t735 => (some (wrap64 (rd l0 a1), t735, wrap64 ((wrap64 ((wrap64 (a1 + 2)) + 1)) + (wrap64 (rd l0 (wrap64 (a1 + 2))))), true))) else (none)) else (none)) else (none)) else (none)) else (none))))) else (none)) else (none))) else (some (0, ([] : List Int), 0, false))) else (if (wrap64 (rd l0 (ji10))) > 250 then (some (0, ([] : List Int), 0, false)) else (if (wrap64 (rd l0 (ji10))) > (wrap64 ((l0.length : Int) - (wrap64 (a1 + 2)))) then (some (0, ([] : List Int), 0, false)) else (if 0 ≤ a1 then (if a1 < (l0.length : Int) then (if 0 ≤ (wrap64 (a1 + 2)) then (if (wrap64 (a1 + 2)) ≤ (wrap64 ((wrap64 (a1 + 2)) + (wrap64 (rd l0 (ji10))))) then (if (wrap64 ((wrap64 (a1 + 2)) + (wrap64 (rd l0 (ji10))))) ≤ (l0.length : Int) then ((impl_copyBytes.f ((l0.take ((wrap64 ((wrap64 (a1 + 2)) + (wrap64 (rd l0 (ji10))))) : Int).toNat).drop ((wrap64 (a1 + 2)) : Int).toNat)).bind fun t740 => (some (wrap64 (rd l0 a1), t740, wrap64 ((wrap64 (a1 + 2)) + (wrap64 (rd l0 (ji10)))), true))) else (none)) else (none)) else (none)) else (none)) else (none))))) else (none)) else (none)) = some (r1, r2, r3, r4)) := by first | (rw [hji10] at H; exact H) | (simp only [hji10] at H ⊢; exact H)
 have hji10w : (IntKind.i64.wrap (a1 + 1)) = ji10 := (i64_w _).trans hji10
 replace H := zNd H; obtain ⟨c11b0, H⟩ := H
 replace H := zNd H; obtain ⟨c12b0, H⟩ := H
 have p730 : 0 ≤ ((ji10) : Int) := of_decide_eq_true zq13
 have q730 : (ji10) < (l0.length : Int) := of_decide_eq_true zq13
 obtain ⟨ad730, e730, hx730_0⟩ := Kd.at_int HR0.out (ji10) p730 q730
 cases e730
 replace hx730_0 := zcl HB.out hx730_0
 replace p730 := eq_true p730
 replace q730 := eq_true q730
 go_upto_region 4 with fail
 replace H := zPd H; rcases H with ⟨c14b0, H⟩ | ⟨c14b0, H⟩
 ·go_upto_region 5 with fail
  replace H := zP H; rcases H with ⟨c16, H⟩ | ⟨c16, H⟩
  ·have c16b0 : ((wrap64 (rd l0 (ji10))) == 129) = true := beq_iff_eq.mpr c16
   have c16b1 : ((wrap64 (rd l0 (ji10))) != 129) = false := bne_eq_false_iff_eq.mpr c16
   clear c16
   replace H := zPd H; rcases H with ⟨c17b0, H⟩ | ⟨c17b0, H⟩
   ·go_upto_region 6 with fail
    obtain ⟨rfl, rfl, rfl, rfl⟩ := zt4 H
    go_wp2
    refine bodyPost_ret (results_list (rs := [.tmp 4, .tmp 5, .tmp 6, .tmp 7]) rfl zq219 (.tmp (.tmp (.tmp (.tmp .nil))))) rfl ?_
    exact ⟨_, zq170, zq7, zq0⟩
   obtain ⟨ji19, hji19⟩ : ∃ j_ : Int, (wrap64 (a1 + 2)) = j_ := ⟨_, rfl⟩
   replace H : Aside0 ((if 0 ≤ (ji19) then (if (ji19) < (l0.length : Int) then (if (rd l0 (ji19)) < 128 then (some (0, ([] : List Int), 0, false)) else (if (wrap64 (rd l0 (ji19))) > 250 then (some (0, ([] : List Int), 0, false)) else (if (wrap64 (rd l0 (ji19))) > (wrap64 ((l0.length : Int) - (wrap64 ((ji19) + 1)))) then (some (0, ([] : List Int), 0, false)) else (if 0 ≤ a1 then (if a1 < (l0.length : Int) then (if 0 ≤ (wrap64 ((ji19) + 1)) then (if (wrap64 ((ji19) + 1)) ≤ (wrap64 ((wrap64 ((ji19) + 1)) + (wrap64 (rd l0 (ji19))))) then (if (wrap64 ((wrap64 ((ji19) + 1)) + (wrap64 (rd l0 (ji19))))) ≤ (l0.length : Int) then ((impl_copyBytes.f ((l0.take ((wrap64 ((wrap64 ((ji19) + 1)) + (wrap64 (rd l0 (ji19))))) : Int).toNat).drop ((wrap64 ((ji19) + 1)) : Int).toNat)).bind fun t735 => (some (wrap64 (rd l0 a1), t735, wrap64 ((wrap64 ((ji19) + 1)) + (wrap64 (rd l0 (ji19)))), true))) else (none)) else (none)) else (none)) else (none)) else (none))))) else (none)) else (none)) = some (r1, r2, r3, r4)) := by first | (rw [hji19] at H; exact H) | (simp only [hji19] at H ⊢; exact H)
   (try rw [hji19] at c17b0)
   have hji19w : (IntKind.i64.wrap (a1 + 2)) = ji19 := (i64_w _).trans hji19
   replace H := zNd H; obtain ⟨c20b0, H⟩ := H
   replace H := zNd H; obtain ⟨c21b0, H⟩ := H
   replace H := zPd H; rcases H with ⟨c22b0, H⟩ | ⟨c22b0, H⟩
   ·have p731 : 0 ≤ ((ji19) : Int) := of_decide_eq_true zq13
    have q731 : (ji19) < (l0.length : Int) := of_decide_eq_true zq13
    obtain ⟨ad731, e731, hx731_0⟩ := Kd.at_int HR0.out (ji19) p731 q731
    obtain rfl : ad730 = ad731 := (by injection e731)
    replace hx731_0 := zcl HB.out hx731_0
    replace p731 := eq_true p731
    replace q731 := eq_true q731
    go_upto_region 6 with fail
    obtain ⟨rfl, rfl, rfl, rfl⟩ := zt4 H
    go_wp2
    refine bodyPost_ret (results_list (rs := [.tmp 4, .tmp 5, .tmp 6, .tmp 7]) rfl zq219 (.tmp (.tmp (.tmp (.tmp .nil))))) rfl ?_
    exact ⟨_, zq193, zq7, zq0⟩
   have p731 : 0 ≤ ((ji19) : Int) := of_decide_eq_true zq13
   have q731 : (ji19) < (l0.length : Int) := of_decide_eq_true zq13
   obtain ⟨ad731, e731, hx731_0⟩ := Kd.at_int HR0.out (ji19) p731 q731
   obtain rfl : ad730 = ad731 := (by injection e731)
   replace hx731_0 := zcl HB.out hx731_0
   replace p731 := eq_true p731
   replace q731 := eq_true q731
   go_upto_region 7 with fail
   have p732 : 0 ≤ ((ji19) : Int) := of_decide_eq_true zq13
   have q732 : (ji19) < (l0.length : Int) := of_decide_eq_true zq13
   obtain ⟨ad732, e732, hx732_0⟩ := Kd.at_int HR0.out (ji19) p732 q732
   obtain rfl : ad730 = ad732 := (by injection e732)
   replace hx732_0 := zcl HB.out hx732_0
   replace p732 := eq_true p732
   replace q732 := eq_true q732
   go_upto_region 8 with fail
   go_upto_region 9 with fail
   replace H := zPd H; rcases H with ⟨c27b0, H⟩ | ⟨c27b0, H⟩
   ·go_upto_region 10 with fail
    obtain ⟨rfl, rfl, rfl, rfl⟩ := zt4 H
    go_wp2
    refine bodyPost_ret (results_list (rs := [.tmp 4, .tmp 5, .tmp 6, .tmp 7]) rfl zq219 (.tmp (.tmp (.tmp (.tmp .nil))))) rfl ?_
    exact ⟨_, zq193, zq7, zq0⟩
   replace H := zPd H; rcases H with ⟨c29b0, H⟩ | ⟨c29b0, H⟩
   ·go_upto_region 10 with fail
    obtain ⟨rfl, rfl, rfl, rfl⟩ := zt4 H
    go_wp2
    refine bodyPost_ret (results_list (rs := [.tmp 4, .tmp 5, .tmp 6, .tmp 7]) rfl zq219 (.tmp (.tmp (.tmp (.tmp .nil))))) rfl ?_
    exact ⟨_, zq193, zq7, zq0⟩
   go_upto_region 11 with fail
   replace H := zNd H; obtain ⟨c32b0, H⟩ := H
   replace H := zNd H; obtain ⟨c33b0, H⟩ := H
   obtain ⟨ji34, hji34⟩ : ∃ j_ : Int, (wrap64 ((ji19) + 1)) = j_ := ⟨_, rfl⟩
   replace H : Aside0 ((if 0 ≤ (ji34) then (if (ji34) ≤ (wrap64 ((ji34) + (wrap64 (rd l0 (ji19))))) then (if (wrap64 ((ji34) + (wrap64 (rd l0 (ji19))))) ≤ (l0.length : Int) then ((impl_copyBytes.f ((l0.take ((wrap64 ((ji34) + (wrap64 (rd l0 (ji19))))) : Int).toNat).drop ((ji34) : Int).toNat)).bind fun t735 => (some (wrap64 (rd l0 a1), t735, wrap64 ((ji34) + (wrap64 (rd l0 (ji19)))), true))) else (none)) else (none)) else (none)) = some (r1, r2, r3, r4)) := by first | (rw [hji34] at H; exact H) | (simp only [hji34] at H ⊢; exact H)
   (try rw [hji34] at c29b0)
   have hji34w : (IntKind.i64.wrap ((ji19) + 1)) = ji34 := (i64_w _).trans hji34
   replace H := zN H; obtain ⟨c35, H⟩ := H
   have c35b0 := eq_true c35
   have c35b1 : decide (0 ≤ (ji34)) = true := decide_eq_true c35
   clear c35
   replace H := zN H; obtain ⟨c36, H⟩ := H
   have c36b0 := eq_true c36
   have c36b1 : decide ((ji34) ≤ (wrap64 ((ji34) + (wrap64 (rd l0 (ji19)))))) = true := decide_eq_true c36
   replace H := zN H; obtain ⟨c37, H⟩ := H
   have c37b0 := eq_true c37
   have c37b1 : decide ((wrap64 ((ji34) + (wrap64 (rd l0 (ji19))))) ≤ (l0.length : Int)) = true := decide_eq_true c37
   replace H := zB H; obtain ⟨t735, A38, H⟩ := H
   try dsimp only at H
   obtain ⟨rfl, rfl, rfl, rfl⟩ := zt4 H
   try go_wp2
   replace HB := zA (below_drew1 HB.out)
   have p733 : 0 ≤ (a1 : Int) := of_decide_eq_true zq13
   have q733 : a1 < (l0.length : Int) := of_decide_eq_true zq13
   obtain ⟨ad733, e733, hx733_0⟩ := Kd.at_int HR0.out a1 p733 q733
   have hw733_0 := hx733_0
   obtain rfl : ad730 = ad733 := (by injection e733)
   replace hx733_0 := zcl HB.out hx733_0
   replace p733 := eq_true p733
   replace q733 := eq_true q733
   obtain ⟨i040, hi040, _, hsz40, _⟩ := info_parts info5
   obtain ⟨A40, hcut40, hA40, hC40⟩ := print_mid_of (P := Try.prog) (Value.int .u8) 0 22 5 .i64 .i64 Try.underlying22 hi040 hsz40 (some ad730) c0 l0 (ji34) (wrap64 ((ji34) + (wrap64 (rd l0 (ji19))))) (of_decide_eq_true zq13) zq302 (of_decide_eq_true zq13) HC0.out
   have HR734 := zA (Kd.C_of_reads (h1 := fun _ => rfl) (hA40 _ (Kd.reads_of_C HR0.out)))
   have HC734 := zA hC40
   clear hA40 hC40 hi040 hsz40
   refine start_ (n := 19) (S := fun w' => w'.cell? (ad730.add (a1).toNat) = some (.int .u8 (rd l0 a1))) (ds := []) (zv 19 0) (by kernel_rfl) rfl rfl ((zcl HB.out hw733_0 :)) (fun hHeld => ?_); refine with_tabW impl_GetTlv.tab11 impl_GetTlv.bits11 (fun HT_ HW_ => ?_)
   generalize w.drew = w39 at HB HR734 hx733_0 hHeld ⊢
   refine zyt 0 61 (zv 19 1) ?_
   refine zyt 1 62 (zv 19 3) ?_
   refine zyt 2 63 (zv 19 7) ?_
   refine zyt 5 66 (zv 19 39) ?_
   refine zyt 6 67 (zv 19 103) ?_
   refine zyt 7 68 (zv 19 231) ?_
   refine zyt 8 69 (zv 19 487) ?_
   refine zyt 9 70 (zv 19 999) ?_
   refine zyt 10 71 (zv 19 2023) ?_
   refine zyt 12 73 (zv 19 6119) ?_
   refine zyt 13 74 (zv 19 14311) ?_
   refine zyt 14 75 (zv 19 30695) ?_
   refine take_ (i := 3) (N := some 64) (v := ?_) (a' := ?_) (zv 19 30703) rfl rfl (take_ofW HT_.out HW_.out (by kernel_rfl)) (fun _ _ _ h => h) (Or.inl ⟨zq94, ?_⟩) hHeld ?_ ?_
   rotate_left
   ·intro w' s0
    go_simp
    with_reducible rfl
   rotate_left
   ·simp only [zvs, i64_w, i32_w]
    rfl
   refine zyt 4 65 (zv 19 30719) ?_
   refine one_ (i := 11) (N := some 72) (zv 19 32767) rfl rfl (one_of HT_.out (by kernel_rfl)) zq52 (fun K hK => ?_)
   refine goes_ Try.func155 (by kernel_rfl) rfl #[.slice A40 ((l0.take ((wrap64 ((ji34) + (wrap64 (rd l0 (ji19))))) : Int).toNat).drop ((ji34) : Int).toNat).length (c0 - (ji34).toNat)] zq94 rfl rfl (by (try simp only [List.map_toArray, List.map_cons, List.map_nil]); first | done | (rw [show ((l0.take ((wrap64 ((ji34) + (wrap64 (rd l0 (ji19))))) : Int).toNat).drop ((ji34) : Int).toNat).length = ((wrap64 ((ji34) + (wrap64 (rd l0 (ji19))))).toNat - (ji34).toNat) from (by rw [List.length_drop, List.length_take]; have h_ : ((wrap64 ((ji34) + (wrap64 (rd l0 (ji19))))) : Int) ≤ (l0.length : Int) := of_decide_eq_true zq13; omega)] <;> rfl) | (simp only [hji19, hji34]; rfl) | rfl | (simp only [List.length_drop, List.length_take]; rfl)) ?_
   with_reducible refine (impl_copyBytes.calls _ _ ((l0.take ((wrap64 ((ji34) + (wrap64 (rd l0 (ji19))))) : Int).toNat).drop ((ji34) : Int).toNat) t735 _ ?side1 ?side2 A38.out).mono ?_
   (case side1 => exact (by repeat (first | exact (Kd.C_below HR734.out HB.out) | (with_reducible refine Kd.C_alloc ?_ _) | (with_reducible refine Kd.C_drewN ?_ _) | (with_reducible refine Kd.C_drew ?_))))
   (case side2 => exact HC734.out)
   rintro e w41 ⟨v736, rfl, ho0, hb⟩
   refine ⟨_, rfl, ?_⟩
   have HO737 := zA (Kd.R_lower ho0 (below_size zq0))
   replace HB := zA (below_step zq0 hb)
   (try clear hb)
   (try clear hb2)
   (try clear hk)
   (try clear hi)
   (try clear ho0)
   refine hK.out _ _ ((zcl HB.out hw733_0 :)) (fun hHeld => ?_)
   clear hK K
   refine norm_ (a' := ?_) ?_ ?_
   rotate_left
   ·show Act.put _ (some 72) _ = _
    simp only [zvs, i64_w, i32_w]
    rfl
   refine zyt 15 4 (zv 19 65535) ?_
   refine zyt 16 5 (zv 19 131071) ?_
   refine zyt 17 6 (zv 19 262143) ?_
   refine zyt 18 7 (zv 19 524287) ?_
   refine done_ (done_of HT_.out (by kernel_rfl)) ?_
   try go_wp2
   refine bodyPost_ret (results_list (rs := [.tmp 4, .tmp 5, .tmp 6, .tmp 7]) rfl zq219 (.tmp (.tmp (.tmp (.tmp .nil))))) rfl ?_
   exact ⟨_, (by first | rfl | (simp [errW_none, errW_some] <;> rfl) | (simp only [← hji10, ← hji19, ← hji34]; first | rfl | (simp [errW_none, errW_some] <;> rfl)) | (simp [*, errW_none, errW_some] <;> rfl)), (zrk HO737.out), zq0⟩
  have c16b0 : ((wrap64 (rd l0 (ji10))) == 129) = false := beq_eq_false_iff_ne.mpr c16
  have c16b1 : ((wrap64 (rd l0 (ji10))) != 129) = true := bne_iff_ne.mpr c16
  go_upto_region 6 with fail
  obtain ⟨rfl, rfl, rfl, rfl⟩ := zt4 H
  go_wp2
  refine bodyPost_ret (results_list (rs := [.tmp 4, .tmp 5, .tmp 6, .tmp 7]) rfl zq219 (.tmp (.tmp (.tmp (.tmp .nil))))) rfl ?_
  exact ⟨_, zq170, zq7, zq0⟩
 go_upto_region 9 with fail
 replace H := zPd H; rcases H with ⟨c44b0, H⟩ | ⟨c44b0, H⟩
 ·go_upto_region 10 with fail
  obtain ⟨rfl, rfl, rfl, rfl⟩ := zt4 H
  go_wp2
  refine bodyPost_ret (results_list (rs := [.tmp 4, .tmp 5, .tmp 6, .tmp 7]) rfl zq219 (.tmp (.tmp (.tmp (.tmp .nil))))) rfl ?_
  exact ⟨_, zq170, zq7, zq0⟩
 replace H := zPd H; rcases H with ⟨c46b0, H⟩ | ⟨c46b0, H⟩
 ·go_upto_region 10 with fail
  obtain ⟨rfl, rfl, rfl, rfl⟩ := zt4 H
  go_wp2
  refine bodyPost_ret (results_list (rs := [.tmp 4, .tmp 5, .tmp 6, .tmp 7]) rfl zq219 (.tmp (.tmp (.tmp (.tmp .nil))))) rfl ?_
  exact ⟨_, zq170, zq7, zq0⟩
 go_upto_region 11 with fail
 replace H := zNd H; obtain ⟨c49b0, H⟩ := H
 replace H := zNd H; obtain ⟨c50b0, H⟩ := H
 obtain ⟨ji51, hji51⟩ : ∃ j_ : Int, (wrap64 (a1 + 2)) = j_ := ⟨_, rfl⟩
 replace H : Aside0 ((if 0 ≤ (ji51) then (if (ji51) ≤ (wrap64 ((ji51) + (wrap64 (rd l0 (ji10))))) then (if (wrap64 ((ji51) + (wrap64 (rd l0 (ji10))))) ≤ (l0.length : Int) then ((impl_copyBytes.f ((l0.take ((wrap64 ((ji51) + (wrap64 (rd l0 (ji10))))) : Int).toNat).drop ((ji51) : Int).toNat)).bind fun t740 => (some (wrap64 (rd l0 a1), t740, wrap64 ((ji51) + (wrap64 (rd l0 (ji10)))), true))) else (none)) else (none)) else (none)) = some (r1, r2, r3, r4)) := by first | (rw [hji51] at H; exact H) | (simp only [hji51] at H ⊢; exact H)
 (try rw [hji51] at c46b0)
 have hji51w : (IntKind.i64.wrap (a1 + 2)) = ji51 := (i64_w _).trans hji51
 replace H := zN H; obtain ⟨c52, H⟩ := H
 have c52b0 := eq_true c52
 have c52b1 : decide (0 ≤ (ji51)) = true := decide_eq_true c52
 clear c52
 replace H := zN H; obtain ⟨c53, H⟩ := H
 have c53b0 := eq_true c53
 have c53b1 : decide ((ji51) ≤ (wrap64 ((ji51) + (wrap64 (rd l0 (ji10)))))) = true := decide_eq_true c53
 replace H := zN H; obtain ⟨c54, H⟩ := H
 have c54b0 := eq_true c54
 have c54b1 : decide ((wrap64 ((ji51) + (wrap64 (rd l0 (ji10))))) ≤ (l0.length : Int)) = true := decide_eq_true c54
 replace H := zB H; obtain ⟨t740, A55, H⟩ := H
 try dsimp only at H
 obtain ⟨rfl, rfl, rfl, rfl⟩ := zt4 H
 try go_wp2
 replace HB := zA (below_drew1 HB.out)
 have p738 : 0 ≤ (a1 : Int) := of_decide_eq_true zq13
 have q738 : a1 < (l0.length : Int) := of_decide_eq_true zq13
 obtain ⟨ad738, e738, hx738_0⟩ := Kd.at_int HR0.out a1 p738 q738
 have hw738_0 := hx738_0
 obtain rfl : ad730 = ad738 := (by injection e738)
 replace hx738_0 := zcl HB.out hx738_0
 replace p738 := eq_true p738
 replace q738 := eq_true q738
 obtain ⟨i057, hi057, _, hsz57, _⟩ := info_parts info5
 obtain ⟨A57, hcut57, hA57, hC57⟩ := print_mid_of (P := Try.prog) (Value.int .u8) 0 22 5 .i64 .i64 Try.underlying22 hi057 hsz57 (some ad730) c0 l0 (ji51) (wrap64 ((ji51) + (wrap64 (rd l0 (ji10))))) (of_decide_eq_true zq13) zq302 (of_decide_eq_true zq13) HC0.out
 have HR739 := zA (Kd.C_of_reads (h1 := fun _ => rfl) (hA57 _ (Kd.reads_of_C HR0.out)))
 have HC739 := zA hC57
 clear hA57 hC57 hi057 hsz57
 refine start_ (n := 19) (S := fun w' => w'.cell? (ad730.add (a1).toNat) = some (.int .u8 (rd l0 a1))) (ds := []) (zv 19 0) (by kernel_rfl) rfl rfl ((zcl HB.out hw738_0 :)) (fun hHeld => ?_); refine with_tabW impl_GetTlv.tab11 impl_GetTlv.bits11 (fun HT_ HW_ => ?_)
 generalize w.drew = w56 at HB HR739 hx738_0 hHeld ⊢
 refine zyt 0 61 (zv 19 1) ?_
 refine zyt 1 62 (zv 19 3) ?_
 refine zyt 2 63 (zv 19 7) ?_
 refine zyt 5 66 (zv 19 39) ?_
 refine zyt 6 67 (zv 19 103) ?_
 refine zyt 7 68 (zv 19 231) ?_
 refine zyt 8 69 (zv 19 487) ?_
 refine zyt 9 70 (zv 19 999) ?_
 refine zyt 10 71 (zv 19 2023) ?_
 refine zyt 12 73 (zv 19 6119) ?_
 refine zyt 13 74 (zv 19 14311) ?_
 refine zyt 14 75 (zv 19 30695) ?_
 refine take_ (i := 3) (N := some 64) (v := ?_) (a' := ?_) (zv 19 30703) rfl rfl (take_ofW HT_.out HW_.out (by kernel_rfl)) (fun _ _ _ h => h) (Or.inl ⟨zq94, ?_⟩) hHeld ?_ ?_
 rotate_left
 ·intro w' s0
  go_simp
  with_reducible rfl
 rotate_left
 ·simp only [zvs, i64_w, i32_w]
  rfl
 refine zyt 4 65 (zv 19 30719) ?_
 refine one_ (i := 11) (N := some 72) (zv 19 32767) rfl rfl (one_of HT_.out (by kernel_rfl)) zq52 (fun K hK => ?_)
 refine goes_ Try.func155 (by kernel_rfl) rfl #[.slice A57 ((l0.take ((wrap64 ((ji51) + (wrap64 (rd l0 (ji10))))) : Int).toNat).drop ((ji51) : Int).toNat).length (c0 - (ji51).toNat)] zq94 rfl rfl (by (try simp only [List.map_toArray, List.map_cons, List.map_nil]); first | done | (rw [show ((l0.take ((wrap64 ((ji51) + (wrap64 (rd l0 (ji10))))) : Int).toNat).drop ((ji51) : Int).toNat).length = ((wrap64 ((ji51) + (wrap64 (rd l0 (ji10))))).toNat - (ji51).toNat) from (by rw [List.length_drop, List.length_take]; have h_ : ((wrap64 ((ji51) + (wrap64 (rd l0 (ji10))))) : Int) ≤ (l0.length : Int) := of_decide_eq_true zq13; omega)] <;> rfl) | (simp only [hji10, hji51]; rfl) | rfl | (simp only [List.length_drop, List.length_take]; rfl)) ?_
 with_reducible refine (impl_copyBytes.calls _ _ ((l0.take ((wrap64 ((ji51) + (wrap64 (rd l0 (ji10))))) : Int).toNat).drop ((ji51) : Int).toNat) t740 _ ?side1 ?side2 A55.out).mono ?_
 (case side1 => exact (by repeat (first | exact (Kd.C_below HR739.out HB.out) | (with_reducible refine Kd.C_alloc ?_ _) | (with_reducible refine Kd.C_drewN ?_ _) | (with_reducible refine Kd.C_drew ?_))))
 (case side2 => exact HC739.out)
 rintro e w58 ⟨v741, rfl, ho0, hb⟩
 refine ⟨_, rfl, ?_⟩
 have HO742 := zA (Kd.R_lower ho0 (below_size zq0))
 replace HB := zA (below_step zq0 hb)
 (try clear hb)
 (try clear hb2)
 (try clear hk)
 (try clear hi)
 (try clear ho0)
 refine hK.out _ _ ((zcl HB.out hw738_0 :)) (fun hHeld => ?_)
 clear hK K
 refine norm_ (a' := ?_) ?_ ?_
 rotate_left
 ·show Act.put _ (some 72) _ = _
  simp only [zvs, i64_w, i32_w]
  rfl
 refine zyt 15 4 (zv 19 65535) ?_
 refine zyt 16 5 (zv 19 131071) ?_
 refine zyt 17 6 (zv 19 262143) ?_
 refine zyt 18 7 (zv 19 524287) ?_
 refine done_ (done_of HT_.out (by kernel_rfl)) ?_
 try go_wp2
 refine bodyPost_ret (results_list (rs := [.tmp 4, .tmp 5, .tmp 6, .tmp 7]) rfl zq219 (.tmp (.tmp (.tmp (.tmp .nil))))) rfl ?_
 exact ⟨_, (by first | rfl | (simp [errW_none, errW_some] <;> rfl) | (simp only [← hji10, ← hji51]; first | rfl | (simp [errW_none, errW_some] <;> rfl)) | (simp [*, errW_none, errW_some] <;> rfl)), (zrk HO742.out), zq0⟩

end Go.Proofs.Ytkcgghgkmgbphaa.PFnMsgs
