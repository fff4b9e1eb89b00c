-- WRITTEN BY a turned copy of the kit's printer (wip/patch_print.py), for this claim
import Derived.Test.YtkcgghgkmgbphaaPFnMsgsx0
import Derived.Test.YtkcgghgkmgbphaaPFnMsgsx1
import Derived.Test.YtkcgghgkmgbphaaPFnMsgsx3
import Derived.Test.YtkcgghgkmgbphaaPFnMsgsx9
import Derived.Test.YtkcgghgkmgbphaaPFnMsgsx15
import Derived.Test.YtkcgghgkmgbphaaPFnMsgsx20
import Derived.Test.YtkcgghgkmgbphaaPFnMsgsx21
import Derived.Test.YtkcgghgkmgbphaaPFnMsgsx25
namespace Go.Proofs.Ytkcgghgkmgbphaa.PFnMsgs
open Go.RowKit Go.Proofs.YtkcgghgkmgbphaaW.PrintWords Go.Proofs.YtkcgghgkmgbphaaW.PrintLast Go.Proofs.YtkcgghgkmgbphaaW.PrintMore
attribute [local go_sem] max2_int min2_int max_two min_two max_three min_three max_four min_four   -- for this text's walks alone
set_option linter.unusedVariables false
set_option linter.unusedSimpArgs false
set_option maxHeartbeats 8000000
set_option maxRecDepth 100000

attribute [local go_sem] cell_setCell_m
/-! ### impl_GetMsg: function 98 -/
def impl_GetMsg.j0 : Nat → ByteArray → List Int → Bool → Option (Int × Int × Int × Int × (List (S116)) × Int)
 | 0, _, _, _ => none
 | k + 1, x0, x7, x33 => if x33 = true then (some (0, 0, 0, 0, ([] : List (S116)), 1)) else ((impl_parts_num.f k x7 0 false 2).bind fun bt865 => ((impl_parts_part.f x7 bt865.2.1 bt865.2.2 4).bind fun bt868 => (if bt868.2.2 = true then (some (0, 0, 0, 0, ([] : List (S116)), 1)) else (if bt865.1 = 1 then (if (strOfNums bt868.1).toList = x0.toList then (if 0 ≤ bt868.2.1 then (if bt868.2.1 ≤ (x7.length : Int) then ((impl_GetPdu.f k (x7.drop (bt868.2.1 : Int).toNat)).bind fun bt877 => (if bt877.2.2.2.2.2 = true then (some (bt877.1, bt877.2.1, bt877.2.2.1, bt877.2.2.2.1, bt877.2.2.2.2.1, 0)) else (some (0, 0, 0, 0, ([] : List (S116)), 1)))) else (none)) else (none)) else (some (0, 0, 0, 0, ([] : List (S116)), 3))) else (some (0, 0, 0, 0, ([] : List (S116)), 2))))))
def impl_GetMsg.f (k : Nat) (a0 : ByteArray) (l1 : List Int) : Option (Int × Int × Int × Int × (List (S116)) × Int) := (impl_GetTlv.f l1 0).bind fun bt858 => (if bt858.2.2.2 = true then (if bt858.1 = 48 then (impl_GetMsg.j0 k a0 bt858.2.1 (bt858.2.2.1 != (l1.length : Int))) else (impl_GetMsg.j0 k a0 bt858.2.1 true)) else (impl_GetMsg.j0 k a0 bt858.2.1 true))
theorem impl_GetMsg.mono_l : ∀ k, (∀ y0 y1 y2, LeO (impl_GetMsg.j0 k y0 y1 y2) (impl_GetMsg.j0 (k + 1) y0 y1 y2))
 | 0 => fun _ _ _ r h => by simp [impl_GetMsg.j0] at h
 | k + 1 => by
  have ih0 := impl_GetMsg.mono_l k
  ·intro y0 y1 y2
   unfold impl_GetMsg.j0
   have m0_ := @impl_GetPdu.mono
   have m1_ := @impl_parts_num.mono
   exact zR
theorem impl_GetMsg.mono : ∀ a0 a1 k, LeO (impl_GetMsg.f k a0 a1) (impl_GetMsg.f (k + 1) a0 a1) := by
 intro a0 a1 k
 have ih0 := impl_GetMsg.mono_l k
 unfold impl_GetMsg.f
 have m0_ := @impl_GetPdu.mono
 have m1_ := @impl_parts_num.mono
 exact zR
theorem impl_GetMsg.calls (k : Nat) (a0 : ByteArray) (A1 : Option Addr) (c1 : Nat) (l1 : List Int) (r1 : Int) (r2 : Int) (r3 : Int) (r4 : Int) (r5 : List (S116)) (r6 : Int) (w : World) (hr1 : Kd.C (Kd.int .u8) w A1 l1.length l1) (hc1 : l1.length ≤ c1) (h : impl_GetMsg.f k a0 l1 = some (r1, r2, r3, r4, r5, r6)) :
  Calls Try.prog 98 #[.string a0, .slice A1 l1.length c1] w fun e w' => ∃ v4_ : Value, e = .returned (.tuple #[.agg #[.int .i64 r1, .int .i64 r2, .int .i64 r3, .int .i64 r4, v4_], .int .i64 r6]) ∧ Kd.S k116 116 w' w.heap.size (fun _ => True) v4_ r5 ∧ Below w.heap.size w w' := by
 have hu26 := Try.underlying26
 have hu127 := Try.underlying127
 have HR1 := zA hr1
 have HC1 := zA hc1
 clear hr1 hc1
 have HB := zA (Below.refl w.heap.size w)
 unfold impl_GetMsg.f at h
 have H := zA h
 clear h
 go_enter Try.func98, Try.ntmps98
 go_upto_region 0 with fail
 go_upto_region 1 with (first | ((with_reducible refine gate_dst (N := 4) rfl ?_); (try (refine gate_guard zq94 ?_; dsimp only)); refine box_event ?hg (N := 4) ?hd (cs := #[.int .i64 0, .int .i64 0, .int .i64 0, .int .i64 0, .slice none 0 0]) (t := 26) ?hr ?_; (case hd => rfl); (case hg => rfl); (case hr => exact zgs); intro gb857 hg w5 hbox hb; have BK857 := zA (hbox); have GW857 := zA ((zq5 : w.heap.size ≤ gb857)); have GE857 := zA ((zq5 : w.heap.size ≤ gb857)); replace HB := zA (below_step zq0 hb); clear hb hbox hg))
 (try simp only [zvs])
 replace H := zB H; obtain ⟨⟨t858, t859, t860, t861⟩, A6, H⟩ := H
 try dsimp only at H
 go_upto_region 2 with (first | ((with_reducible refine zg112 rfl ?_); refine zl112 (some 17) #[.slice A1 l1.length c1, .int .i64 0] ?_; (with_reducible refine (impl_GetTlv.calls _ _ l1 0 t858 t859 t860 t861 _ ?side1 ?side2 A6.out).mono ?_); (case side1 => exact zq202); (case side2 => exact HC1.out); rintro e w8 ⟨v862, rfl, ho0, hb⟩; refine ⟨_, rfl, ?_⟩; have HO863 := zA (Kd.R_lower ho0 (below_size zq0)); replace BK857 := zA (zbb BK857.out hb); replace HB := zA (below_step zq0 hb); clear hb ho0))
 (try simp only [zvs])
 go_upto_region 2 with fail
 go_cut [33] (fun v33 wc => ∃ (kq : Nat) (x33_8 : Bool), v33 = .bool x33_8 ∧ Aside0 (impl_GetMsg.j0 kq a0 t859 x33_8 = some (r1, r2, r3, r4, r5, r6)) ∧ Aside0 (kq ≤ k) ∧ Aside0 (Kd.R (Kd.int .u8) 5 wc w.heap.size (fun _ => True) v862 t859) ∧ Aside0 (wc.heap[gb857]? = some (.cells #[.int .i64 0, .int .i64 0, .int .i64 0, .int .i64 0, (.slice none 0 0)] 26 (0, 0))) ∧ Aside0 (Below w.heap.size w wc))
 case first =>
  replace H := zE H; rcases H with ⟨rfl, H⟩ | ⟨rfl, H⟩
  ·by_cases c11 : t858 = 48
   ·rw [if_pos c11] at H
    have c11b0 : (t858 == 48) = true := beq_iff_eq.mpr c11
    have c11b1 : (t858 != 48) = false := bne_eq_false_iff_eq.mpr c11
    clear c11
    (first | rw [c11b0] | (simp only [i64_w, i32_w]; rw [c11b0]) | skip)
    have H' := H; clear H
    go_wp2
    go_meet
    case rel => exact ⟨_, ((t860 != (l1.length : Int))), zq15, H', ⟨zq120⟩, ⟨(zrk HO863.out)⟩, ⟨(zbk BK857.out)⟩, ⟨zq0⟩⟩
   ·rw [if_neg c11] at H
    have c11b0 : (t858 == 48) = false := beq_eq_false_iff_ne.mpr c11
    have c11b1 : (t858 != 48) = true := bne_iff_ne.mpr c11
    (first | rw [c11b0] | (simp only [i64_w, i32_w]; rw [c11b0]) | skip)
    have H' := H; clear H
    go_wp2
    go_meet
    case rel => exact ⟨_, (true), zq15, H', ⟨zq120⟩, ⟨(zrk HO863.out)⟩, ⟨(zbk BK857.out)⟩, ⟨zq0⟩⟩
  have H' := H
  clear H
  go_wp2
  go_meet
  case rel => exact ⟨_, (true), zq15, H', ⟨zq120⟩, ⟨(zrk HO863.out)⟩, ⟨(zbk BK857.out)⟩, ⟨zq0⟩⟩
 case rest =>
  try clear c1
  try clear p2
  try clear c9
  try clear c10
  try clear c11
  try clear c11b0
  try clear c11b1
  obtain ⟨kq, x33_8, rfl, HA, HJ8, HO_7, BK857, HB⟩ := hcut
  cases kq with
  | zero => exact absurd HA.out (by simp [impl_GetMsg.j0])
  | succ kj8 =>
   have H := HA
   clear HA
   simp only [impl_GetMsg.j0] at H
   replace H := zE H; rcases H with ⟨rfl, H⟩ | ⟨rfl, H⟩
   ·go_upto_region 3 with fail
    obtain ⟨rfl, rfl, rfl, rfl, rfl, rfl⟩ := zt6 H
    have hz14 := zc5 BK857.out
    go_wp2
    refine bodyPost_ret (results_ct rfl _ _ gb857 26 #[.int .i64 0, .int .i64 0, .int .i64 0, .int .i64 0, .slice none 0 0] (0, 0) _ rfl (zbp BK857.out) Try.underlying26 rfl (by kernel_rfl)) rfl ?_
    exact ⟨_, zq1, zq70, zq0⟩
   go_upto_region 4 with fail
   obtain ⟨Ao17, co17, eo17⟩ := Kd.R_slice HO_7.out
   subst eo17
   go_upto_region 5 with (first | ((with_reducible refine gate_dst (N := 37) rfl ?_); (try (refine gate_guard zq94 ?_; dsimp only)); refine box_event ?hg (N := 37) ?hd (cs := #[.slice Ao17 t859.length co17, .int .i64 0, .bool false]) (t := 127) ?hr ?_; (case hd => rfl); (case hg => rfl); (case hr => exact zgs); intro gb864 hg w18 hbox hb; have BK864 := zA (hbox); have GW864 := zA ((zq256 : w.heap.size ≤ gb864)); have GE864 := zA ((zq256 : w.heap.size ≤ gb864)); replace HB := zA (below_step zq0 hb); have NB857_864 := zA (((znl BK857.out hg) : gb857 ≠ gb864)); have NB864_857 := zA (((zng BK857.out hg) : gb864 ≠ gb857)); replace BK857 := zA (zbb BK857.out hb); have LT864_0 := zA ((fun k_ h_ => by rw [hg]; exact Kd.R_lt (zrk HO_7.out) k_ h_ : ∀ k_, (.slice Ao17 t859.length co17 : Value).ownBlock = some k_ → k_ < gb864)); replace HO_7 := zA (Kd.R_below (zrk HO_7.out) hb); clear hb hbox hg))
   (try simp only [zvs])
   replace H := zB H; obtain ⟨⟨t865, t866, t867⟩, A19, H⟩ := H
   try dsimp only at H
   go_upto_region 6 with (first | ((with_reducible refine zg113 rfl ?_); refine zl113 (some 39) #[.pointer (some ⟨gb864, 0, none⟩), .int .i64 2] ?_; (with_reducible refine (impl_parts_num.callsB kj8 gb864 Ao17 co17 t859 0 false 2 t865 t866 t867 w _ ?side1 ?side2 ?side3 ?side4 ?side5 ?side6 A19.out).mono ?_); (case side1 => exact (zbk BK864.out)); (case side2 => exact zq260); (case side3 => exact (Kd.R_reads' HO_7.out).2.1); (case side4 => exact LT864_0.out); (case side5 => exact zq0); (case side6 => exact GE864.out); rintro e w21 ⟨rfl, hi, hb, hk⟩; refine ⟨_, rfl, ?_⟩; replace HO_7 := zA (Kd.R_mono (Kd.R_keep (Kd.R_types (g := gb864) (t := 127) (cells := #[.slice Ao17 t859.length co17, .int .i64 0, .bool false]) (zrk HO_7.out) (zbk BK864.out) zq52) hk (fun _ h => h.2)) (fun _ h => h.1)); replace BK857 := zA (zkb hk BK857.out NB857_864.out); replace HB := zA (hb); replace BK864 := zA (hi); clear hb hk hi))
   (try simp only [zvs])
   replace H := zB H; obtain ⟨⟨t868, t871, t872⟩, A22, H⟩ := H
   try dsimp only at H
   go_upto_region 7 with (first | ((with_reducible refine zg114 rfl ?_); refine zl114 (some 41) #[.pointer (some ⟨gb864, 0, none⟩), .int .i64 4] ?_; (with_reducible refine (impl_parts_part.callsB gb864 Ao17 co17 t859 t866 t867 4 t868 t871 t872 w _ ?side1 ?side2 ?side3 ?side4 ?side5 ?side6 A22.out).mono ?_); (case side1 => exact (zbk BK864.out)); (case side2 => exact zq260); (case side3 => exact (Kd.R_reads' HO_7.out).2.1); (case side4 => exact LT864_0.out); (case side5 => exact zq0); (case side6 => exact GE864.out); rintro e w24 ⟨v869, rfl, ho0, hi, hb, hk⟩; refine ⟨_, rfl, ?_⟩; replace BK857 := zA (zkb hk BK857.out NB857_864.out); have HO870 := zA (Kd.R_lower (Kd.R_new' ho0 (Kd.R_lt (zrk HO_7.out))) (below_size zq0)); replace HO_7 := zA (Kd.R_mono (Kd.R_told (Kd.R_oldK (Kd.R_types (g := gb864) (t := 127) (cells := #[.slice Ao17 t859.length co17, .int .i64 t866, .bool t867]) (zrk HO_7.out) (zbk BK864.out) zq52) hk) (Kd.R_base ho0)) (fun _ h_ => h_.1)); replace HB := zA (hb); replace BK864 := zA (hi); clear hb hk hi ho0; have hcv25 := own_string (P := Try.prog) Try.underlying22 Try.underlying5 Try.underlying9 (Kd.own_of_R HO870.out)))
   (try simp only [zvs])
   (try (rw [drewN_self w24]; generalize hq_ : World.drewN w24 _ = w24; replace HO_7 := zA (Kd.R_at hq_ HO_7.out); replace HO870 := zA (Kd.R_at hq_ HO870.out); replace BK857 := zA (blk_at hq_ BK857.out); replace BK864 := zA (blk_at hq_ BK864.out); replace HB := zA (below_at hq_ HB.out); clear hq_))
   replace H := zE H; rcases H with ⟨rfl, H⟩ | ⟨rfl, H⟩
   ·have hn28 := zn NB864_857
    have hz29 := zc3 BK864.out
    go_upto_region 8 with fail
    obtain ⟨rfl, rfl, rfl, rfl, rfl, rfl⟩ := zt6 H
    have hn30 := zn NB857_864
    have hz31 := zc5 BK857.out
    go_wp2
    refine bodyPost_ret (results_ct rfl _ _ gb857 26 #[.int .i64 0, .int .i64 0, .int .i64 0, .int .i64 0, .slice none 0 0] (0, 0) _ rfl (zbp BK857.out) Try.underlying26 rfl (by kernel_rfl)) rfl ?_
    exact ⟨_, zq1, zq70, zq0⟩
   have hn33 := zn NB864_857
   have hz34 := zc3 BK864.out
   go_upto_region 9 with fail
   replace H := zP H; rcases H with ⟨c35, H⟩ | ⟨c35, H⟩
   ·have c35b0 : (t865 == 1) = true := beq_iff_eq.mpr c35
    have c35b1 : (t865 != 1) = false := bne_eq_false_iff_eq.mpr c35
    clear c35
    go_upto_region 11 with fail
    replace H := zP H; rcases H with ⟨c37, H⟩ | ⟨c37, H⟩
    ·have c37b0 : ((strOfNums t868).toList == a0.toList) = true := beq_iff_eq.mpr c37
     have c37b1 : ((strOfNums t868).toList != a0.toList) = false := bne_eq_false_iff_eq.mpr c37
     clear c37
     go_upto_region 13 with fail
     replace H := zN H; obtain ⟨c39, H⟩ := H
     have c39b0 := eq_true c39
     have c39b1 : decide (0 ≤ t871) = true := decide_eq_true c39
     clear c39
     replace H := zN H; obtain ⟨c40, H⟩ := H
     have c40b0 := eq_true c40
     have c40b1 : decide (t871 ≤ (t859.length : Int)) = true := decide_eq_true c40
     clear c40
     obtain ⟨y873, hy873⟩ : ∃ y_ : List Int, y_ = (t859.drop (t871 : Int).toNat) := ⟨_, rfl⟩
     rw [← hy873] at H
     have Ny873 := zA hy873
     clear hy873
     replace H := zB H; obtain ⟨⟨t877, t878, t879, t880, t881, t884⟩, A41, H⟩ := H
     try dsimp only at H
     have hn43 := zn NB864_857
     have hz44 := zc3 BK864.out
     have q45 : (t871 : Int) ≤ ((t859.length : Int) : Int) := of_decide_eq_true zq13
     obtain ⟨i045, hi045, _, hsz45, _⟩ := info_parts info5
     have hroom45 : t859.length ≤ co17 := (Kd.R_reads' HO_7.out).2.1
     have hC45 : Kd.C (Kd.int .u8) _ Ao17 t859.length t859 := (Kd.R_reads' HO_7.out).2.2
     have q045 : (0 : Int) ≤ (t871 : Int) := of_decide_eq_true zq13
     have hcut45 := cut_from (P := Try.prog) 22 5 .i64 Try.underlying22 hi045 1 hsz45 Ao17 t859.length co17 t871 q045 q45
     have hr45 := Kd.C_drop (m := (t871 : Int).toNat) (c := co17) hC45 zq183 hroom45
     obtain ⟨A45, hA45⟩ : ∃ A1, A1 = (if co17 = (t871 : Int).toNat then Ao17 else (Ao17 : Option Addr).map (·.add ((t871 : Int).toNat * 1))) := ⟨_, rfl⟩
     obtain ⟨c45, hc45⟩ : ∃ c1, c1 = co17 - (t871 : Int).toNat := ⟨_, rfl⟩
     have hy45 : y873.length = t859.length - (t871 : Int).toNat := (by rw [Ny873.out, List.length_drop] <;> omega)
     rw [show (t859).drop (t871 : Int).toNat = y873 from Ny873.out.symm] at hr45
     replace hr45 : Kd.C (Kd.int .u8) _ A45 y873.length y873 := (by rw [hA45]; exact hr45)
     rw [← hy45, ← hA45, ← hc45] at hcut45
     have HR876 := zA hr45
     have HC876 := zA (show y873.length ≤ c45 from (by rw [hy45, hc45]; exact Nat.sub_le_sub_right hroom45 _))
     clear hr45 hC45 hroom45 hi045 hsz45 hc45
     have KY45 := zA hy45
     have KA45 := zA hA45
     clear hy45 hA45
     have KL45 := zA (show (t871 : Int).toNat ≤ t859.length from zq183)
     replace q45 := eq_true q45
     go_upto_region 14 with (first | ((with_reducible refine zg22 rfl ?_); refine zl22 (some 65) #[.slice A45 y873.length c45] ?_; (with_reducible refine (impl_GetPdu.calls kj8 _ _ y873 t877 t878 t879 t880 t881 t884 _ ?side1 ?side2 A41.out).mono ?_); (case side1 => exact (by repeat (first | exact zq191 | (with_reducible refine Kd.C_alloc ?_ _) | (with_reducible refine Kd.C_drewN ?_ _) | (with_reducible refine Kd.C_drew ?_)))); (case side2 => exact HC876.out); rintro e w46 ⟨v882, rfl, ho0, hb⟩; refine ⟨_, rfl, ?_⟩; replace HO_7 := zA (Kd.R_below (zrk HO_7.out) hb); replace HO870 := zA (Kd.R_below (zrk HO870.out) hb); have HO883 := zA (Kd.S_lower ho0 (below_size zq0)); replace BK857 := zA (zbb BK857.out hb); replace BK864 := zA (zbb BK864.out hb); replace HR876 := zA (Kd.C_below zq191 hb); replace HB := zA (below_step zq0 hb); clear hb ho0) | ((with_reducible refine gate_dst (N := 13) rfl ?_); (try (refine gate_guard zq94 ?_; dsimp only)); refine box_event ?hg (N := 13) ?hd (cs := #[.int .i64 0, .int .i64 0, .int .i64 0, .int .i64 0, .slice none 0 0]) (t := 26) ?hr ?_; (case hd => rfl); (case hg => rfl); (case hr => exact zgs); intro gb885 hg w47 hbox hb; replace HO_7 := zA (Kd.R_below (zrk HO_7.out) hb); replace HO870 := zA (Kd.R_below (zrk HO870.out) hb); replace HO883 := zA (Kd.S_below (zsk HO883.out) hb); replace HR876 := zA (Kd.C_below zq191 hb); have BK885 := zA (hbox); have GW885 := zA ((zq236 : w.heap.size ≤ gb885)); have GE885 := zA ((zq236 : w.heap.size ≤ gb885)); replace HB := zA (below_step zq0 hb); have NB857_885 := zA (((znl BK857.out hg) : gb857 ≠ gb885)); have NB885_857 := zA (((zng BK857.out hg) : gb885 ≠ gb857)); replace BK857 := zA (zbb BK857.out hb); have NB864_885 := zA ((by rw [hg]; exact Nat.ne_of_lt (blk_lt (g := gb864) (o := .cells #[.slice Ao17 t859.length co17, .int .i64 t871, .bool false] 127 (0, 0)) (zbk BK864.out)) : gb864 ≠ gb885)); have NB885_864 := zA ((by rw [hg]; exact Nat.ne_of_gt (blk_lt (g := gb864) (o := .cells #[.slice Ao17 t859.length co17, .int .i64 t871, .bool false] 127 (0, 0)) (zbk BK864.out)) : gb885 ≠ gb864)); replace BK864 := zA (zbb BK864.out hb); clear hb hbox hg; have hn48 := zn NB885_857; have hn49 := zn NB885_864; have hz50 := zc5 BK885.out; obtain ⟨Ao51, co51, eo51⟩ := Kd.S_slice HO883.out; subst eo51))
     (try simp only [zvs])
     replace H := zE H; rcases H with ⟨rfl, H⟩ | ⟨rfl, H⟩
     ·go_upto_region 16 with fail
      obtain ⟨rfl, rfl, rfl, rfl, rfl, rfl⟩ := zt6 H
      have hn54 := zn NB885_857
      have hn55 := zn NB885_864
      have hz56 := zc5 BK885.out
      have hn57 := zn NB857_864
      have hz58 := zc5 BK857.out
      go_wp2
      refine bodyPost_ret (results_ct rfl _ _ gb857 26 #[.int .i64 t877, .int .i64 t878, .int .i64 t879, .int .i64 t880, .slice Ao51 t881.length co51] (0, 0) _ rfl (zbp BK857.out) Try.underlying26 rfl (by kernel_rfl)) rfl ?_
      exact ⟨_, zq1, (by (with_reducible repeat (first | apply Kd.S_alloc | apply Kd.S_drewN | apply Kd.S_drew)); exact Kd.S_mono (Kd.S_far (p := ⟨gb857, 4, none⟩) (Kd.S_far (p := ⟨gb857, 3, none⟩) (Kd.S_far (p := ⟨gb857, 2, none⟩) (Kd.S_far (p := ⟨gb857, 1, none⟩) (Kd.S_far (p := ⟨gb857, 0, none⟩) (Kd.S_far (p := ⟨gb885, 4, none⟩) (Kd.S_far (p := ⟨gb885, 3, none⟩) (Kd.S_far (p := ⟨gb885, 2, none⟩) (Kd.S_far (p := ⟨gb885, 1, none⟩) (Kd.S_far (p := ⟨gb885, 0, none⟩) (Kd.S_types (Kd.S_types HO883.out BK885.out zq52) BK857.out zq52) (fun _ hk => hk.1.2) (.int .i64 t877)) (fun _ hk => hk.1.2) (.int .i64 t878)) (fun _ hk => hk.1.2) (.int .i64 t879)) (fun _ hk => hk.1.2) (.int .i64 t880)) (fun _ hk => hk.1.2) (.slice Ao51 t881.length co51)) (fun _ hk => hk.2) (.int .i64 t877)) (fun _ hk => hk.2) (.int .i64 t878)) (fun _ hk => hk.2) (.int .i64 t879)) (fun _ hk => hk.2) (.int .i64 t880)) (fun _ hk => hk.2) (.slice Ao51 t881.length co51)) (fun _ hk => trivial)), zq0⟩
     go_upto_region 15 with fail
     obtain ⟨rfl, rfl, rfl, rfl, rfl, rfl⟩ := zt6 H
     have hn60 := zn NB857_864
     have hn61 := zn NB857_885
     have hz62 := zc5 BK857.out
     go_wp2
     refine bodyPost_ret (results_ct rfl _ _ gb857 26 #[.int .i64 0, .int .i64 0, .int .i64 0, .int .i64 0, .slice none 0 0] (0, 0) _ rfl (zbp BK857.out) Try.underlying26 rfl (by kernel_rfl)) rfl ?_
     exact ⟨_, zq1, zq70, zq0⟩
    have c37b0 : ((strOfNums t868).toList == a0.toList) = false := beq_eq_false_iff_ne.mpr c37
    have c37b1 : ((strOfNums t868).toList != a0.toList) = true := bne_iff_ne.mpr c37
    go_upto_region 12 with fail
    obtain ⟨rfl, rfl, rfl, rfl, rfl, rfl⟩ := zt6 H
    have hn64 := zn NB857_864
    have hz65 := zc5 BK857.out
    go_wp2
    refine bodyPost_ret (results_ct rfl _ _ gb857 26 #[.int .i64 0, .int .i64 0, .int .i64 0, .int .i64 0, .slice none 0 0] (0, 0) _ rfl (zbp BK857.out) Try.underlying26 rfl (by kernel_rfl)) rfl ?_
    exact ⟨_, zq1, zq70, zq0⟩
   have c35b0 : (t865 == 1) = false := beq_eq_false_iff_ne.mpr c35
   have c35b1 : (t865 != 1) = true := bne_iff_ne.mpr c35
   go_upto_region 10 with fail
   obtain ⟨rfl, rfl, rfl, rfl, rfl, rfl⟩ := zt6 H
   have hn67 := zn NB857_864
   have hz68 := zc5 BK857.out
   go_wp2
   refine bodyPost_ret (results_ct rfl _ _ gb857 26 #[.int .i64 0, .int .i64 0, .int .i64 0, .int .i64 0, .slice none 0 0] (0, 0) _ rfl (zbp BK857.out) Try.underlying26 rfl (by kernel_rfl)) rfl ?_
   exact ⟨_, zq1, zq70, zq0⟩

/-! ### laws_at: function 99 -/
def laws_at.f (l0 : List Int) (a1 : Int) : Option (Int) := if a1 < (l0.length : Int) then (if 0 ≤ a1 then (some (wrap64 (rd l0 a1))) else (none)) else (some (Int.tmod (wrap64 ((wrap64 (a1 * 31)) + (wrap64 ((l0.length : Int) * 7)))) 256))
theorem laws_at.calls (A0 : Option Addr) (c0 : Nat) (l0 : List Int) (a1 : Int) (r : Int) (w : World) (hr0 : Kd.C (Kd.int .u8) w A0 l0.length l0) (hc0 : l0.length ≤ c0) (h : laws_at.f l0 a1 = some r) :
  Calls Try.prog 99 #[.slice A0 l0.length c0, .int .i64 a1] w fun e w' => e = .returned (.int .i64 r) ∧ Drawn0 w w' := by
 have HR0 := zA hr0
 have HC0 := zA hc0
 clear hr0 hc0
 unfold laws_at.f at h
 have H := zA h
 clear h
 go_enter Try.func99, Try.ntmps99
 go_upto_region 0 with fail
 go_upto_region 1 with fail
 replace H := zPd H; rcases H with ⟨c5b0, H⟩ | ⟨c5b0, H⟩
 ·go_upto_region 2 with fail
  replace H := zNd H; obtain ⟨c7b0, H⟩ := H
  obtain rfl := zi H
  have p886 : 0 ≤ (a1 : Int) := of_decide_eq_true zq13
  have q886 : a1 < (l0.length : Int) := of_decide_eq_true zq13
  obtain ⟨ad886, e886, hx886_0⟩ := Kd.at_int HR0.out a1 p886 q886
  cases e886
  replace p886 := eq_true p886
  replace q886 := eq_true q886
  go_wp2
  go_ret
  exact ⟨zq15, zq65⟩
 go_upto_region 3 with fail
 obtain rfl := zi H
 go_wp2
 go_ret
 exact ⟨zq15, zq65⟩

/-! ### laws_FnMsgs: function 14 -/
def laws_FnMsgs.f (k : Nat) (l0 : List Int) : Option (Bool) := (laws_big.f l0).bind fun t887 => (if t887 = true then (some true) else ((spec_DrawPutMsg.f k l0).bind fun bt888 => ((impl_PutMsg.f k bt888.1 bt888.2.1 bt888.2.2.1 bt888.2.2.2.1 bt888.2.2.2.2.1 bt888.2.2.2.2.2).bind fun t897 => ((spec_PutMsg.f k bt888.1 bt888.2.1 bt888.2.2.1 bt888.2.2.2.1 bt888.2.2.2.2.1 bt888.2.2.2.2.2).bind fun t900 => ((laws_sameBytes.f k t897 t900).bind fun t903 => (if t903 = true then (if (t897.length : Int) = 0 then (some true) else ((impl_GetMsg.f k bt888.1 t897).bind fun bt904 => (if bt888.1.size + 1 ≤ 9223372036854775807 then ((impl_GetMsg.f k (bt888.1 ++ (⟨#[120]⟩ : ByteArray)) t897).bind fun bt913 => ((laws_at.f l0 2).bind fun t922 => (if 0 ≤ (Int.tmod t922 (t897.length : Int)) then (if (Int.tmod t922 (t897.length : Int)) ≤ (t897.length : Int) then ((impl_GetMsg.f k bt888.1 (t897.take ((Int.tmod t922 (t897.length : Int)) : Int).toNat)).bind fun bt927 => (if bt904.2.2.2.2.2 = 0 then ((laws_samePdu.f k bt904.1 bt904.2.1 bt904.2.2.1 bt904.2.2.2.1 bt904.2.2.2.2.1 bt888.2.1 bt888.2.2.1 bt888.2.2.2.1 bt888.2.2.2.2.1 bt888.2.2.2.2.2).bind fun t936 => (if t936 = true then (if bt913.2.2.2.2.2 = 3 then (some (bt927.2.2.2.2.2 == 1)) else (none)) else (none))) else (none))) else (none)) else (none)))) else (none)))) else (none)))))))
theorem laws_FnMsgs.mono : ∀ a0 k, LeO (laws_FnMsgs.f k a0) (laws_FnMsgs.f (k + 1) a0) := by
 intro a0 k
 unfold laws_FnMsgs.f
 have m0_ := @impl_GetMsg.mono
 have m1_ := @impl_PutMsg.mono
 have m2_ := @laws_sameBytes.mono
 have m3_ := @laws_samePdu.mono
 have m4_ := @spec_DrawPutMsg.mono
 have m5_ := @spec_PutMsg.mono
 exact zR
theorem laws_FnMsgs.calls (k : Nat) (A0 : Option Addr) (c0 : Nat) (l0 : List Int) (r : Bool) (w : World) (hr0 : Kd.C (Kd.int .u8) w A0 l0.length l0) (hc0 : l0.length ≤ c0) (h : laws_FnMsgs.f k l0 = some r) :
  Calls Try.prog 14 #[.slice A0 l0.length c0] w fun e w' => e = .returned (.bool r) ∧ Below w.heap.size w w' := by
 have hu26 := Try.underlying26
 have HR0 := zA hr0
 have HC0 := zA hc0
 clear hr0 hc0
 have HB := zA (Below.refl w.heap.size w)
 unfold laws_FnMsgs.f at h
 have H := zA h
 clear h
 go_enter Try.func14, Try.ntmps14
 go_upto_region 0 with fail
 go_upto_region 1 with fail
 replace H := zB H; obtain ⟨t887, A4, H⟩ := H
 try dsimp only at H
 replace H := zE H; rcases H with ⟨rfl, H⟩ | ⟨rfl, H⟩
 ·go_upto_region 2 with (first | ((with_reducible refine zg18 rfl ?_); refine zl18 (some 13) #[.slice A0 l0.length c0] ?_; (with_reducible refine (laws_big.calls _ _ l0 true _ ?side1 ?side2 A4.out).mono ?_); (case side1 => exact zq18); (case side2 => exact HC0.out); rintro e w' ⟨rfl, ⟨nd, rfl⟩⟩; refine ⟨_, rfl, ?_⟩))
  (try simp only [zvs])
  obtain rfl := zi H
  go_wp2
  go_ret
  exact ⟨zq1, zq0⟩
 go_upto_region 3 with (first | ((with_reducible refine zg18 rfl ?_); refine zl18 (some 13) #[.slice A0 l0.length c0] ?_; (with_reducible refine (laws_big.calls _ _ l0 false _ ?side1 ?side2 A4.out).mono ?_); (case side1 => exact zq18); (case side2 => exact HC0.out); rintro e w' ⟨rfl, ⟨nd, rfl⟩⟩; refine ⟨_, rfl, ?_⟩))
 (try simp only [zvs])
 replace H := zB H; obtain ⟨⟨t888, t889, t890, t891, t892, t893⟩, A8, H⟩ := H
 try dsimp only at H
 go_upto_region 4 with (first | ((with_reducible refine zg97 rfl ?_); refine zl97 (some 16) #[.slice A0 l0.length c0] ?_; (with_reducible refine (spec_DrawPutMsg.calls k _ _ l0 t888 t889 t890 t891 t892 t893 _ ?side1 ?side2 A8.out).mono ?_); (case side1 => exact zq18); (case side2 => exact HC0.out); rintro e w10 ⟨v894, rfl, ho0, hb⟩; refine ⟨_, rfl, ?_⟩; have HO895 := zA (Kd.S_lower ho0 (below_size zq0)); replace HB := zA (below_step zq0 hb); clear hb ho0) | ((with_reducible refine gate_dst (N := 4) rfl ?_); refine box_event ?hg (N := 4) ?hd (cs := #[.int .i64 0, .int .i64 0, .int .i64 0, .int .i64 0, .slice none 0 0]) (t := 26) ?hr ?_; (case hd => rfl); (case hg => rfl); (case hr => exact zgs); intro gb896 hg w11 hbox hb; replace HO895 := zA (Kd.S_below zq84 hb); have BK896 := zA (hbox); have GW896 := zA ((zq5 : w.heap.size ≤ gb896)); have GE896 := zA ((zq5 : w.heap.size ≤ gb896)); replace HB := zA (below_step zq0 hb); clear hb hbox hg; have hz12 := zc5 BK896.out; obtain ⟨Ao13, co13, eo13⟩ := Kd.S_slice HO895.out; subst eo13))
 (try simp only [zvs])
 obtain ⟨w14, hW_⟩ : ∃ wz_, wz_ = (((((w11.setCell ⟨gb896, 0, none⟩ (.int .i64 t889)).setCell ⟨gb896, 1, none⟩ (.int .i64 t890)).setCell ⟨gb896, 2, none⟩ (.int .i64 t891)).setCell ⟨gb896, 3, none⟩ (.int .i64 t892)).setCell ⟨gb896, 4, none⟩ (.slice Ao13 t893.length co13)) := ⟨_, rfl⟩
 replace HO895 : Aside0 (Kd.S k116 116 w14 w.heap.size (fun _ => True) (.slice Ao13 t893.length co13) t893) := ⟨(by subst hW_; exact Kd.S_mono (Kd.S_far (Kd.S_far (Kd.S_far (Kd.S_far (Kd.S_far (Kd.S_types HO895.out BK896.out zq52) (fun _ hk => hk.2) _) (fun _ hk => hk.2) _) (fun _ hk => hk.2) _) (fun _ hk => hk.2) _) (fun _ hk => hk.2) _) (fun _ hk => trivial))⟩
 replace BK896 : Aside0 (w14.heap[gb896]? = some (.cells #[.int .i64 t889, .int .i64 t890, .int .i64 t891, .int .i64 t892, .slice Ao13 t893.length co13] 26 (0, 0))) := ⟨zwp hW_ BK896.out⟩
 replace HB : Aside0 (Below w.heap.size w w14) := ⟨(zwh hW_ HB.out)⟩
 rw [← hW_]; clear hW_
 replace H := zB H; obtain ⟨t897, A15, H⟩ := H
 try dsimp only at H
 have hz17 := zc5 BK896.out
 go_upto_region 5 with (first | ((with_reducible refine zg96 rfl ?_); refine zl96 (some 21) #[.string t888, .agg #[.int .i64 t889, .int .i64 t890, .int .i64 t891, .int .i64 t892, .slice Ao13 t893.length co13]] ?_; (with_reducible refine (impl_PutMsg.calls k t888 t889 t890 t891 t892 _ _ t893 t897 _ ?side1 ?side2 A15.out).mono ?_); (case side1 => exact zq204); (case side2 => exact (Kd.S_reads' HO895.out).2.1); rintro e w18 ⟨v898, rfl, ho0, hb⟩; refine ⟨_, rfl, ?_⟩; replace HO895 := zA (Kd.S_below zq84 hb); have HO899 := zA (Kd.R_lower ho0 (below_size zq0)); replace BK896 := zA (zbb BK896.out hb); replace HB := zA (below_step zq0 hb); clear hb ho0))
 (try simp only [zvs])
 replace H := zB H; obtain ⟨t900, A19, H⟩ := H
 try dsimp only at H
 replace H := zB H; obtain ⟨t903, A20, H⟩ := H
 try dsimp only at H
 replace H := zE H; rcases H with ⟨rfl, H⟩ | ⟨rfl, H⟩
 ·have hz23 := zc5 BK896.out
  go_upto_region 7 with (first | ((with_reducible refine zg95 rfl ?_); refine zl95 (some 25) #[.string t888, .agg #[.int .i64 t889, .int .i64 t890, .int .i64 t891, .int .i64 t892, .slice Ao13 t893.length co13]] ?_; (with_reducible refine (spec_PutMsg.calls k t888 t889 t890 t891 t892 _ _ t893 t900 _ ?side1 ?side2 A19.out).mono ?_); (case side1 => exact zq204); (case side2 => exact (Kd.S_reads' HO895.out).2.1); rintro e w24 ⟨v901, rfl, ho0, hb⟩; refine ⟨_, rfl, ?_⟩; replace HO895 := zA (Kd.S_below zq84 hb); have HO902 := zA (Kd.R_lower (Kd.R_new' ho0 (Kd.R_lt (zrk HO899.out))) (below_size zq0)); replace HO899 := zA (Kd.R_elder' (zrk HO899.out) (Kd.R_base ho0) hb); replace BK896 := zA (zbb BK896.out hb); replace HB := zA (below_step zq0 hb); clear hb ho0; obtain ⟨Ao25, co25, eo25⟩ := Kd.R_slice HO899.out; subst eo25; obtain ⟨Ao26, co26, eo26⟩ := Kd.R_slice HO902.out; subst eo26) | ((with_reducible refine zg25 rfl ?_); refine zl25 (some 26) #[.slice Ao25 t897.length co25, .slice Ao26 t900.length co26] ?_; (with_reducible refine (laws_sameBytes.calls k _ _ t897 _ _ t900 true _ ?side1 ?side2 ?side3 ?side4 A20.out).mono ?_); (case side1 => exact zq171); (case side2 => exact (Kd.R_reads' HO899.out).2.1); (case side3 => exact zq259); (case side4 => exact (Kd.R_reads' HO902.out).2.1); rintro e w' ⟨rfl, ⟨nd, rfl⟩⟩; refine ⟨_, rfl, ?_⟩))
  (try simp only [zvs])
  (try (rw [drewN_self w24]; generalize hq_ : World.drewN w24 _ = w24; replace HO895 := zA (Kd.S_at hq_ HO895.out); replace HO899 := zA (Kd.R_at hq_ HO899.out); replace HO902 := zA (Kd.R_at hq_ HO902.out); replace BK896 := zA (blk_at hq_ BK896.out); replace HB := zA (below_at hq_ HB.out); clear hq_))
  replace H := zP H; rcases H with ⟨c27, H⟩ | ⟨c27, H⟩
  ·have c27b0 : ((t897.length : Int) == 0) = true := beq_iff_eq.mpr c27
   have c27b1 : ((t897.length : Int) != 0) = false := bne_eq_false_iff_eq.mpr c27
   clear c27
   go_upto_region 8 with fail
   obtain rfl := zi H
   go_wp2
   go_ret
   exact ⟨zq1, zq0⟩
  have c27b0 : ((t897.length : Int) == 0) = false := beq_eq_false_iff_ne.mpr c27
  have c27b1 : ((t897.length : Int) != 0) = true := bne_iff_ne.mpr c27
  have c27b2 : ¬ (t897 = []) := fun h_ => c27 (by rw [h_]; rfl)
  go_upto_region 9 with fail
  replace H := zB H; obtain ⟨⟨t904, t905, t906, t907, t908, t911⟩, A30, H⟩ := H
  try dsimp only at H
  go_upto_region 10 with (first | ((with_reducible refine zg98 rfl ?_); refine zl98 (some 34) #[.string t888, .slice Ao25 t897.length co25] ?_; (with_reducible refine (impl_GetMsg.calls k t888 _ _ t897 t904 t905 t906 t907 t908 t911 _ ?side1 ?side2 A30.out).mono ?_); (case side1 => exact zq171); (case side2 => exact (Kd.R_reads' HO899.out).2.1); rintro e w32 ⟨v909, rfl, ho0, hb⟩; refine ⟨_, rfl, ?_⟩; replace HO899 := zA (Kd.R_below (zrk HO899.out) hb); replace HO902 := zA (Kd.R_below (zrk HO902.out) hb); have HO910 := zA (Kd.S_lower (Kd.S_new' ho0 (Kd.S_lt zq84)) (below_size zq0)); replace HO895 := zA (Kd.S_elder' zq84 (Kd.S_base ho0) hb); replace BK896 := zA (zbb BK896.out hb); replace HB := zA (below_step zq0 hb); clear hb ho0) | ((with_reducible refine gate_dst (N := 6) rfl ?_); refine box_event ?hg (N := 6) ?hd (cs := #[.int .i64 0, .int .i64 0, .int .i64 0, .int .i64 0, .slice none 0 0]) (t := 26) ?hr ?_; (case hd => rfl); (case hg => rfl); (case hr => exact zgs); intro gb912 hg w33 hbox hb; replace HO895 := zA (Kd.S_below zq84 hb); replace HO899 := zA (Kd.R_below (zrk HO899.out) hb); replace HO902 := zA (Kd.R_below (zrk HO902.out) hb); replace HO910 := zA (Kd.S_below (zsk HO910.out) hb); have BK912 := zA (hbox); have GW912 := zA ((zq257 : w.heap.size ≤ gb912)); have GE912 := zA ((zq257 : w.heap.size ≤ gb912)); replace HB := zA (below_step zq0 hb); have NB896_912 := zA (((znl BK896.out hg) : gb896 ≠ gb912)); have NB912_896 := zA (((zng BK896.out hg) : gb912 ≠ gb896)); replace BK896 := zA (zbb BK896.out hb); clear hb hbox hg; have hn34 := zn NB912_896; have hz35 := zc5 BK912.out; obtain ⟨Ao36, co36, eo36⟩ := Kd.S_slice HO910.out; subst eo36))
  (try simp only [zvs])
  obtain ⟨w37, hW_⟩ : ∃ wz_, wz_ = (((((w33.setCell ⟨gb912, 0, none⟩ (.int .i64 t904)).setCell ⟨gb912, 1, none⟩ (.int .i64 t905)).setCell ⟨gb912, 2, none⟩ (.int .i64 t906)).setCell ⟨gb912, 3, none⟩ (.int .i64 t907)).setCell ⟨gb912, 4, none⟩ (.slice Ao36 t908.length co36)) := ⟨_, rfl⟩
  replace HO895 : Aside0 (Kd.S k116 116 w37 w.heap.size (fun k_ => some k_ ≠ (.slice Ao36 t908.length co36 : Value).ownBlock) (.slice Ao13 t893.length co13) t893) := ⟨(by subst hW_; exact Kd.S_mono (Kd.S_far (Kd.S_far (Kd.S_far (Kd.S_far (Kd.S_far (Kd.S_types HO895.out BK912.out zq52) (fun _ hk => hk.2) _) (fun _ hk => hk.2) _) (fun _ hk => hk.2) _) (fun _ hk => hk.2) _) (fun _ hk => hk.2) _) (fun _ hk => hk.1.2))⟩
  replace HO899 : Aside0 (Kd.R (Kd.int .u8) 5 w37 w.heap.size (fun k_ => some k_ ≠ (.slice Ao26 t900.length co26 : Value).ownBlock) (.slice Ao25 t897.length co25) t897) := ⟨(by subst hW_; exact Kd.R_mono (Kd.R_far (Kd.R_far (Kd.R_far (Kd.R_far (Kd.R_far (Kd.R_types HO899.out BK912.out zq52) (fun _ hk => hk.2) _) (fun _ hk => hk.2) _) (fun _ hk => hk.2) _) (fun _ hk => hk.2) _) (fun _ hk => hk.2) _) (fun _ hk => hk.1.2))⟩
  replace HO902 : Aside0 (Kd.R (Kd.int .u8) 5 w37 w.heap.size (fun k_ => some k_ ≠ (.slice Ao25 t897.length co25 : Value).ownBlock) (.slice Ao26 t900.length co26) t900) := ⟨(by subst hW_; exact Kd.R_mono (Kd.R_far (Kd.R_far (Kd.R_far (Kd.R_far (Kd.R_far (Kd.R_types HO902.out BK912.out zq52) (fun _ hk => hk.2) _) (fun _ hk => hk.2) _) (fun _ hk => hk.2) _) (fun _ hk => hk.2) _) (fun _ hk => hk.2) _) (fun _ hk => hk.1.2))⟩
  replace HO910 : Aside0 (Kd.S k116 116 w37 w.heap.size (fun k_ => some k_ ≠ (.slice Ao13 t893.length co13 : Value).ownBlock) (.slice Ao36 t908.length co36) t908) := ⟨(by subst hW_; exact Kd.S_mono (Kd.S_far (Kd.S_far (Kd.S_far (Kd.S_far (Kd.S_far (Kd.S_types HO910.out BK912.out zq52) (fun _ hk => hk.2) _) (fun _ hk => hk.2) _) (fun _ hk => hk.2) _) (fun _ hk => hk.2) _) (fun _ hk => hk.2) _) (fun _ hk => hk.1.2))⟩
  replace BK896 : Aside0 (w37.heap[gb896]? = some (.cells #[.int .i64 t889, .int .i64 t890, .int .i64 t891, .int .i64 t892, .slice Ao13 t893.length co13] 26 (0, 0))) := ⟨zwf hW_ BK896.out⟩
  replace BK912 : Aside0 (w37.heap[gb912]? = some (.cells #[.int .i64 t904, .int .i64 t905, .int .i64 t906, .int .i64 t907, .slice Ao36 t908.length co36] 26 (0, 0))) := ⟨zwp hW_ BK912.out⟩
  replace HB : Aside0 (Below w.heap.size w w37) := ⟨(zwh hW_ HB.out)⟩
  rw [← hW_]; clear hW_
  replace H := zN H; obtain ⟨c38, H⟩ := H
  have c38b0 := eq_true c38
  have c38b1 : decide (t888.size + 1 ≤ 9223372036854775807) = true := decide_eq_true c38
  try have c38b2 : (9223372036854775807 < t888.size + 1) = False := eq_false (Nat.not_lt.2 c38)
  replace H := zB H; obtain ⟨⟨t913, t914, t915, t916, t917, t920⟩, A39, H⟩ := H
  try dsimp only at H
  go_upto_region 11 with (first | ((with_reducible refine zg98 rfl ?_); refine zl98 (some 41) #[.string (t888 ++ (⟨#[120]⟩ : ByteArray)), .slice Ao25 t897.length co25] ?_; (with_reducible refine (impl_GetMsg.calls k (t888 ++ (⟨#[120]⟩ : ByteArray)) _ _ t897 t913 t914 t915 t916 t917 t920 _ ?side1 ?side2 A39.out).mono ?_); (case side1 => exact zq171); (case side2 => exact (Kd.R_reads' HO899.out).2.1); rintro e w41 ⟨v918, rfl, ho0, hb⟩; refine ⟨_, rfl, ?_⟩; replace HO899 := zA (Kd.R_below (zrk HO899.out) hb); replace HO902 := zA (Kd.R_below (zrk HO902.out) hb); have HO919 := zA (Kd.S_lower (Kd.S_new' (Kd.S_new' ho0 (Kd.S_lt zq84)) (Kd.S_lt (zsk HO910.out))) (below_size zq0)); replace HO895 := zA (Kd.S_elder' zq84 (Kd.S_base ho0) hb); replace HO910 := zA (Kd.S_elder' (zsk HO910.out) (Kd.S_base ho0) hb); replace BK896 := zA (zbb BK896.out hb); replace BK912 := zA (zbb BK912.out hb); replace HB := zA (below_step zq0 hb); clear hb ho0) | ((with_reducible refine gate_dst (N := 8) rfl ?_); refine box_event ?hg (N := 8) ?hd (cs := #[.int .i64 0, .int .i64 0, .int .i64 0, .int .i64 0, .slice none 0 0]) (t := 26) ?hr ?_; (case hd => rfl); (case hg => rfl); (case hr => exact zgs); intro gb921 hg w42 hbox hb; replace HO895 := zA (Kd.S_below zq84 hb); replace HO899 := zA (Kd.R_below (zrk HO899.out) hb); replace HO902 := zA (Kd.R_below (zrk HO902.out) hb); replace HO910 := zA (Kd.S_below (zsk HO910.out) hb); replace HO919 := zA (Kd.S_below (zsk HO919.out) hb); have BK921 := zA (hbox); have GW921 := zA ((zq237 : w.heap.size ≤ gb921)); have GE921 := zA ((zq237 : w.heap.size ≤ gb921)); replace HB := zA (below_step zq0 hb); have NB896_921 := zA (((znl BK896.out hg) : gb896 ≠ gb921)); have NB921_896 := zA (((zng BK896.out hg) : gb921 ≠ gb896)); replace BK896 := zA (zbb BK896.out hb); have NB912_921 := zA (((znl BK912.out hg) : gb912 ≠ gb921)); have NB921_912 := zA (((zng BK912.out hg) : gb921 ≠ gb912)); replace BK912 := zA (zbb BK912.out hb); clear hb hbox hg; have hn43 := zn NB921_896; have hn44 := zn NB921_912; have hz45 := zc5 BK921.out; obtain ⟨Ao46, co46, eo46⟩ := Kd.S_slice HO919.out; subst eo46))
  (try simp only [zvs])
  obtain ⟨w47, hW_⟩ : ∃ wz_, wz_ = (((((w42.setCell ⟨gb921, 0, none⟩ (.int .i64 t913)).setCell ⟨gb921, 1, none⟩ (.int .i64 t914)).setCell ⟨gb921, 2, none⟩ (.int .i64 t915)).setCell ⟨gb921, 3, none⟩ (.int .i64 t916)).setCell ⟨gb921, 4, none⟩ (.slice Ao46 t917.length co46)) := ⟨_, rfl⟩
  replace HO895 : Aside0 (Kd.S k116 116 w47 w.heap.size (fun k_ => some k_ ≠ (.slice Ao36 t908.length co36 : Value).ownBlock ∧ some k_ ≠ (.slice Ao46 t917.length co46 : Value).ownBlock) (.slice Ao13 t893.length co13) t893) := ⟨(by subst hW_; exact Kd.S_mono (Kd.S_far (Kd.S_far (Kd.S_far (Kd.S_far (Kd.S_far (Kd.S_types HO895.out BK921.out zq52) (fun _ hk => hk.2) _) (fun _ hk => hk.2) _) (fun _ hk => hk.2) _) (fun _ hk => hk.2) _) (fun _ hk => hk.2) _) (fun _ hk => ⟨hk.1.1, hk.1.2⟩))⟩
  replace HO899 : Aside0 (Kd.R (Kd.int .u8) 5 w47 w.heap.size (fun k_ => some k_ ≠ (.slice Ao26 t900.length co26 : Value).ownBlock) (.slice Ao25 t897.length co25) t897) := ⟨(by subst hW_; exact Kd.R_mono (Kd.R_far (Kd.R_far (Kd.R_far (Kd.R_far (Kd.R_far (Kd.R_types HO899.out BK921.out zq52) (fun _ hk => hk.2) _) (fun _ hk => hk.2) _) (fun _ hk => hk.2) _) (fun _ hk => hk.2) _) (fun _ hk => hk.2) _) (fun _ hk => hk.1))⟩
  replace HO902 : Aside0 (Kd.R (Kd.int .u8) 5 w47 w.heap.size (fun k_ => some k_ ≠ (.slice Ao25 t897.length co25 : Value).ownBlock) (.slice Ao26 t900.length co26) t900) := ⟨(by subst hW_; exact Kd.R_mono (Kd.R_far (Kd.R_far (Kd.R_far (Kd.R_far (Kd.R_far (Kd.R_types HO902.out BK921.out zq52) (fun _ hk => hk.2) _) (fun _ hk => hk.2) _) (fun _ hk => hk.2) _) (fun _ hk => hk.2) _) (fun _ hk => hk.2) _) (fun _ hk => hk.1))⟩
  replace HO910 : Aside0 (Kd.S k116 116 w47 w.heap.size (fun k_ => some k_ ≠ (.slice Ao13 t893.length co13 : Value).ownBlock ∧ some k_ ≠ (.slice Ao46 t917.length co46 : Value).ownBlock) (.slice Ao36 t908.length co36) t908) := ⟨(by subst hW_; exact Kd.S_mono (Kd.S_far (Kd.S_far (Kd.S_far (Kd.S_far (Kd.S_far (Kd.S_types HO910.out BK921.out zq52) (fun _ hk => hk.2) _) (fun _ hk => hk.2) _) (fun _ hk => hk.2) _) (fun _ hk => hk.2) _) (fun _ hk => hk.2) _) (fun _ hk => ⟨hk.1.1, hk.1.2⟩))⟩
  replace HO919 : Aside0 (Kd.S k116 116 w47 w.heap.size (fun k_ => some k_ ≠ (.slice Ao13 t893.length co13 : Value).ownBlock ∧ some k_ ≠ (.slice Ao36 t908.length co36 : Value).ownBlock) (.slice Ao46 t917.length co46) t917) := ⟨(by subst hW_; exact Kd.S_mono (Kd.S_far (Kd.S_far (Kd.S_far (Kd.S_far (Kd.S_far (Kd.S_types HO919.out BK921.out zq52) (fun _ hk => hk.2) _) (fun _ hk => hk.2) _) (fun _ hk => hk.2) _) (fun _ hk => hk.2) _) (fun _ hk => hk.2) _) (fun _ hk => ⟨hk.1.1.2, hk.1.2⟩))⟩
  replace BK896 : Aside0 (w47.heap[gb896]? = some (.cells #[.int .i64 t889, .int .i64 t890, .int .i64 t891, .int .i64 t892, .slice Ao13 t893.length co13] 26 (0, 0))) := ⟨zwf hW_ BK896.out⟩
  replace BK912 : Aside0 (w47.heap[gb912]? = some (.cells #[.int .i64 t904, .int .i64 t905, .int .i64 t906, .int .i64 t907, .slice Ao36 t908.length co36] 26 (0, 0))) := ⟨zwf hW_ BK912.out⟩
  replace BK921 : Aside0 (w47.heap[gb921]? = some (.cells #[.int .i64 t913, .int .i64 t914, .int .i64 t915, .int .i64 t916, .slice Ao46 t917.length co46] 26 (0, 0))) := ⟨zwp hW_ BK921.out⟩
  replace HB : Aside0 (Below w.heap.size w w47) := ⟨(zwh hW_ HB.out)⟩
  rw [← hW_]; clear hW_
  replace H := zB H; obtain ⟨t922, A48, H⟩ := H
  try dsimp only at H
  obtain ⟨ji49, hji49⟩ : ∃ j_ : Int, (Int.tmod t922 (t897.length : Int)) = j_ := ⟨_, rfl⟩
  replace H : Aside0 ((if 0 ≤ (ji49) then (if (ji49) ≤ (t897.length : Int) then ((impl_GetMsg.f k t888 (t897.take ((ji49) : Int).toNat)).bind fun bt927 => (if t911 = 0 then ((laws_samePdu.f k t904 t905 t906 t907 t908 t889 t890 t891 t892 t893).bind fun t936 => (if t936 = true then (if t920 = 3 then (some (bt927.2.2.2.2.2 == 1)) else (none)) else (none))) else (none))) else (none)) else (none)) = some r) := by first | (rw [hji49] at H; exact H) | (simp only [hji49] at H ⊢; exact H)
  (try rw [hji49] at A48)
  replace H := zN H; obtain ⟨c50, H⟩ := H
  have c50b0 := eq_true c50
  have c50b1 : decide (0 ≤ (ji49)) = true := decide_eq_true c50
  clear c50
  replace H := zN H; obtain ⟨c51, H⟩ := H
  have c51b0 := eq_true c51
  have c51b1 : decide ((ji49) ≤ (t897.length : Int)) = true := decide_eq_true c51
  clear c51
  obtain ⟨y923, hy923⟩ : ∃ y_ : List Int, y_ = (t897.take ((ji49) : Int).toNat) := ⟨_, rfl⟩
  rw [← hy923] at H
  have Ny923 := zA hy923
  clear hy923
  replace H := zB H; obtain ⟨⟨t927, t928, t929, t930, t931, t934⟩, A52, H⟩ := H
  try dsimp only at H
  go_upto_region 12 with (first | ((with_reducible refine zg99 rfl ?_); refine zl99 (some 48) #[.slice A0 l0.length c0, .int .i64 2] ?_; (with_reducible refine (laws_at.calls _ _ l0 2 t922 _ ?side1 ?side2 A48.out).mono ?_); (case side1 => exact zq18); (case side2 => exact HC0.out); rintro e w' ⟨rfl, ⟨nd, rfl⟩⟩; refine ⟨_, rfl, ?_⟩; (try (rw [drewN_self w47]; generalize hq_ : World.drewN w47 _ = w47; have n0_ : Aside0 (Kd.S k116 116 w47 w.heap.size (fun k_ => some k_ ≠ (.slice Ao36 t908.length co36 : Value).ownBlock ∧ some k_ ≠ (.slice Ao46 t917.length co46 : Value).ownBlock) (.slice Ao13 t893.length co13) t893) := ⟨(by rw [← hq_]; exact zq84)⟩; have n1_ : Aside0 (Kd.R (Kd.int .u8) 5 w47 w.heap.size (fun k_ => some k_ ≠ (.slice Ao26 t900.length co26 : Value).ownBlock) (.slice Ao25 t897.length co25) t897) := ⟨(by rw [← hq_]; exact (zrk HO899.out))⟩; have n2_ : Aside0 (Kd.R (Kd.int .u8) 5 w47 w.heap.size (fun k_ => some k_ ≠ (.slice Ao25 t897.length co25 : Value).ownBlock) (.slice Ao26 t900.length co26) t900) := ⟨(by rw [← hq_]; exact (zrk HO902.out))⟩; have n3_ : Aside0 (Kd.S k116 116 w47 w.heap.size (fun k_ => some k_ ≠ (.slice Ao13 t893.length co13 : Value).ownBlock ∧ some k_ ≠ (.slice Ao46 t917.length co46 : Value).ownBlock) (.slice Ao36 t908.length co36) t908) := ⟨(by rw [← hq_]; exact (zsk HO910.out))⟩; have n4_ : Aside0 (Kd.S k116 116 w47 w.heap.size (fun k_ => some k_ ≠ (.slice Ao13 t893.length co13 : Value).ownBlock ∧ some k_ ≠ (.slice Ao36 t908.length co36 : Value).ownBlock) (.slice Ao46 t917.length co46) t917) := ⟨(by rw [← hq_]; exact (zsk HO919.out))⟩; have n5_ : Aside0 (w47.heap[gb896]? = some (.cells #[.int .i64 t889, .int .i64 t890, .int .i64 t891, .int .i64 t892, .slice Ao13 t893.length co13] 26 (0, 0))) := ⟨(by rw [← hq_]; exact (zbk BK896.out))⟩; have n6_ : Aside0 (w47.heap[gb912]? = some (.cells #[.int .i64 t904, .int .i64 t905, .int .i64 t906, .int .i64 t907, .slice Ao36 t908.length co36] 26 (0, 0))) := ⟨(by rw [← hq_]; exact (zbk BK912.out))⟩; have n7_ : Aside0 (w47.heap[gb921]? = some (.cells #[.int .i64 t913, .int .i64 t914, .int .i64 t915, .int .i64 t916, .slice Ao46 t917.length co46] 26 (0, 0))) := ⟨(by rw [← hq_]; exact (zbk BK921.out))⟩; have n8_ : Aside0 (Below w.heap.size w w47) := ⟨(by rw [← hq_]; exact zq0)⟩; clear HO895 HO899 HO902 HO910 HO919 BK896 BK912 BK921 HB hq_; have HO895 := n0_; have HO899 := n1_; have HO902 := n2_; have HO910 := n3_; have HO919 := n4_; have BK896 := n5_; have BK912 := n6_; have BK921 := n7_; have HB := n8_; clear n0_ n1_ n2_ n3_ n4_ n5_ n6_ n7_ n8_)); have q54 : ((ji49) : Int) ≤ ((t897.length : Int) : Int) := of_decide_eq_true zq13; obtain ⟨i054, hi054, _, hsz54, _⟩ := info_parts info5; have hroom54 : t897.length ≤ co25 := (Kd.R_reads' HO899.out).2.1; have hC54 : Kd.C (Kd.int .u8) _ Ao25 t897.length t897 := (Kd.R_reads' HO899.out).2.2; have hcut54 := cut_to (P := Try.prog) 22 5 .i64 Try.underlying22 hi054 Ao25 t897.length co25 (ji49) (of_decide_eq_true zq13) q54 hroom54; have hr54 := Kd.C_take (m := ((ji49) : Int).toNat) hC54 zq183; have hy54 : y923.length = ((ji49) : Int).toNat := (by rw [Ny923.out, List.length_take]; omega); rw [← Ny923.out] at hr54; rw [← hy54] at hcut54; have HR926 := zA hr54; have HC926 := zA (show y923.length ≤ co25 from zq183); clear hr54 hC54 hroom54 hi054 hsz54; have KY54 := zA hy54; clear hy54; have KL54 := zA (show ((ji49) : Int).toNat ≤ t897.length from zq183); replace q54 := eq_true q54) | ((with_reducible refine zg98 rfl ?_); refine zl98 (some 53) #[.string t888, .slice Ao25 y923.length co25] ?_; (with_reducible refine (impl_GetMsg.calls k t888 _ _ y923 t927 t928 t929 t930 t931 t934 _ ?side1 ?side2 A52.out).mono ?_); (case side1 => exact (by repeat (first | exact zq192 | (with_reducible refine Kd.C_alloc ?_ _) | (with_reducible refine Kd.C_drewN ?_ _) | (with_reducible refine Kd.C_drew ?_)))); (case side2 => exact HC926.out); rintro e w55 ⟨v932, rfl, ho0, hb⟩; refine ⟨_, rfl, ?_⟩; replace HO899 := zA (Kd.R_below (zrk HO899.out) hb); replace HO902 := zA (Kd.R_below (zrk HO902.out) hb); have HO933 := zA (Kd.S_lower (Kd.S_new' (Kd.S_new' (Kd.S_new' ho0 (Kd.S_lt zq84)) (Kd.S_lt (zsk HO910.out))) (Kd.S_lt (zsk HO919.out))) (below_size zq0)); replace HO895 := zA (Kd.S_elder' zq84 (Kd.S_base ho0) hb); replace HO910 := zA (Kd.S_elder' (zsk HO910.out) (Kd.S_base ho0) hb); replace HO919 := zA (Kd.S_elder' (zsk HO919.out) (Kd.S_base ho0) hb); replace BK896 := zA (zbb BK896.out hb); replace BK912 := zA (zbb BK912.out hb); replace BK921 := zA (zbb BK921.out hb); replace HR926 := zA (Kd.C_below zq192 hb); replace HB := zA (below_step zq0 hb); clear hb ho0) | ((with_reducible refine gate_dst (N := 10) rfl ?_); refine box_event ?hg (N := 10) ?hd (cs := #[.int .i64 0, .int .i64 0, .int .i64 0, .int .i64 0, .slice none 0 0]) (t := 26) ?hr ?_; (case hd => rfl); (case hg => rfl); (case hr => exact zgs); intro gb935 hg w56 hbox hb; replace HO895 := zA (Kd.S_below zq84 hb); replace HO899 := zA (Kd.R_below (zrk HO899.out) hb); replace HO902 := zA (Kd.R_below (zrk HO902.out) hb); replace HO910 := zA (Kd.S_below (zsk HO910.out) hb); replace HO919 := zA (Kd.S_below (zsk HO919.out) hb); replace HO933 := zA (Kd.S_below (zsk HO933.out) hb); replace HR926 := zA (Kd.C_below zq192 hb); have BK935 := zA (hbox); have GW935 := zA ((zq223 : w.heap.size ≤ gb935)); have GE935 := zA ((zq223 : w.heap.size ≤ gb935)); replace HB := zA (below_step zq0 hb); have NB896_935 := zA (((znl BK896.out hg) : gb896 ≠ gb935)); have NB935_896 := zA (((zng BK896.out hg) : gb935 ≠ gb896)); replace BK896 := zA (zbb BK896.out hb); have NB912_935 := zA (((znl BK912.out hg) : gb912 ≠ gb935)); have NB935_912 := zA (((zng BK912.out hg) : gb935 ≠ gb912)); replace BK912 := zA (zbb BK912.out hb); have NB921_935 := zA ((by rw [hg]; exact Nat.ne_of_lt (blk_lt (g := gb921) (o := .cells #[.int .i64 t913, .int .i64 t914, .int .i64 t915, .int .i64 t916, .slice Ao46 t917.length co46] 26 (0, 0)) (zbk BK921.out)) : gb921 ≠ gb935)); have NB935_921 := zA ((by rw [hg]; exact Nat.ne_of_gt (blk_lt (g := gb921) (o := .cells #[.int .i64 t913, .int .i64 t914, .int .i64 t915, .int .i64 t916, .slice Ao46 t917.length co46] 26 (0, 0)) (zbk BK921.out)) : gb935 ≠ gb921)); replace BK921 := zA (zbb BK921.out hb); clear hb hbox hg; have hn57 := zn NB935_896; have hn58 := zn NB935_912; have hn59 := zn NB935_921; have hz60 := zc5 BK935.out; obtain ⟨Ao61, co61, eo61⟩ := Kd.S_slice HO933.out; subst eo61))
  (try simp only [zvs])
  replace H := zNq H; obtain ⟨c62b0, c62b1, H⟩ := H
  replace H := zB H; obtain ⟨t936, A63, H⟩ := H
  try dsimp only at H
  replace H := zE H; rcases H with ⟨rfl, H⟩ | ⟨rfl, H⟩
  ·replace H := zNq H; obtain ⟨c65b0, c65b1, H⟩ := H
   obtain rfl := zi H
   have hn66 := zn NB912_896
   have hn67 := zn NB912_921
   have hn68 := zn NB912_935
   have hz69 := zc5 BK912.out
   have hn70 := zn NB896_921
   have hn71 := zn NB896_935
   have hz72 := zc5 BK896.out
   go_wp2_with (first | (go_at_call 28; (with_reducible refine (laws_samePdu.calls k t904 t905 t906 t907 _ _ t908 t889 t890 t891 t892 _ _ t893 true _ ?side1 ?side2 ?side3 ?side4 A63.out).mono ?_); (case side1 => exact (by refine (Kd.S_reads' (e := 116) (base := w.heap.size) (ok := fun k_ => ((some k_ ≠ (.slice Ao13 t893.length co13 : Value).ownBlock ∧ some k_ ≠ (.slice Ao46 t917.length co46 : Value).ownBlock) ∧ some k_ ≠ (.slice Ao61 t931.length co61 : Value).ownBlock)) (n := t908.length) (c := co36) ?_).2.2; exact zq161)); (case side2 => exact (Kd.S_reads' HO910.out).2.1); (case side3 => exact (by refine (Kd.S_reads' (e := 116) (base := w.heap.size) (ok := fun k_ => ((some k_ ≠ (.slice Ao36 t908.length co36 : Value).ownBlock ∧ some k_ ≠ (.slice Ao46 t917.length co46 : Value).ownBlock) ∧ some k_ ≠ (.slice Ao61 t931.length co61 : Value).ownBlock)) (n := t893.length) (c := co13) ?_).2.2; exact zq162)); (case side4 => exact (Kd.S_reads' HO895.out).2.1); rintro e w73 ⟨rfl, hb⟩; replace HO895 := zA (Kd.S_below zq162 hb); replace HO899 := zA (Kd.R_below (by (with_reducible repeat (first | apply Kd.R_alloc | apply Kd.R_drewN | apply Kd.R_drew)); exact (Kd.R_mono (Kd.R_far (p := ⟨gb935, 4, none⟩) (Kd.R_far (p := ⟨gb935, 3, none⟩) (Kd.R_far (p := ⟨gb935, 2, none⟩) (Kd.R_far (p := ⟨gb935, 1, none⟩) (Kd.R_far (p := ⟨gb935, 0, none⟩) (Kd.R_types HO899.out BK935.out zq52) (fun _ hk => hk.2) (.int .i64 t927)) (fun _ hk => hk.2) (.int .i64 t928)) (fun _ hk => hk.2) (.int .i64 t929)) (fun _ hk => hk.2) (.int .i64 t930)) (fun _ hk => hk.2) (.slice Ao61 t931.length co61)) (fun _ h_ => h_.1))) hb); replace HO902 := zA (Kd.R_below (by (with_reducible repeat (first | apply Kd.R_alloc | apply Kd.R_drewN | apply Kd.R_drew)); exact (Kd.R_mono (Kd.R_far (p := ⟨gb935, 4, none⟩) (Kd.R_far (p := ⟨gb935, 3, none⟩) (Kd.R_far (p := ⟨gb935, 2, none⟩) (Kd.R_far (p := ⟨gb935, 1, none⟩) (Kd.R_far (p := ⟨gb935, 0, none⟩) (Kd.R_types HO902.out BK935.out zq52) (fun _ hk => hk.2) (.int .i64 t927)) (fun _ hk => hk.2) (.int .i64 t928)) (fun _ hk => hk.2) (.int .i64 t929)) (fun _ hk => hk.2) (.int .i64 t930)) (fun _ hk => hk.2) (.slice Ao61 t931.length co61)) (fun _ h_ => h_.1))) hb); replace HO910 := zA (Kd.S_below zq161 hb); replace HO919 := zA (Kd.S_below (by (with_reducible repeat (first | apply Kd.S_alloc | apply Kd.S_drewN | apply Kd.S_drew)); exact (Kd.S_mono (Kd.S_far (p := ⟨gb935, 4, none⟩) (Kd.S_far (p := ⟨gb935, 3, none⟩) (Kd.S_far (p := ⟨gb935, 2, none⟩) (Kd.S_far (p := ⟨gb935, 1, none⟩) (Kd.S_far (p := ⟨gb935, 0, none⟩) (Kd.S_types HO919.out BK935.out zq52) (fun _ hk => hk.2) (.int .i64 t927)) (fun _ hk => hk.2) (.int .i64 t928)) (fun _ hk => hk.2) (.int .i64 t929)) (fun _ hk => hk.2) (.int .i64 t930)) (fun _ hk => hk.2) (.slice Ao61 t931.length co61)) (fun _ h_ => h_.1))) hb); replace HO933 := zA (Kd.S_below (by (with_reducible repeat (first | apply Kd.S_alloc | apply Kd.S_drewN | apply Kd.S_drew)); exact (Kd.S_mono (Kd.S_far (p := ⟨gb935, 4, none⟩) (Kd.S_far (p := ⟨gb935, 3, none⟩) (Kd.S_far (p := ⟨gb935, 2, none⟩) (Kd.S_far (p := ⟨gb935, 1, none⟩) (Kd.S_far (p := ⟨gb935, 0, none⟩) (Kd.S_types HO933.out BK935.out zq52) (fun _ hk => hk.2) (.int .i64 t927)) (fun _ hk => hk.2) (.int .i64 t928)) (fun _ hk => hk.2) (.int .i64 t929)) (fun _ hk => hk.2) (.int .i64 t930)) (fun _ hk => hk.2) (.slice Ao61 t931.length co61)) (fun _ h_ => h_.1))) hb); replace BK896 := zA (blk_below (g := gb896) (o := .cells #[.int .i64 t889, .int .i64 t890, .int .i64 t891, .int .i64 t892, .slice Ao13 t893.length co13] 26 (0, 0)) (zbf BK896.out) hb); replace BK912 := zA (blk_below (g := gb912) (o := .cells #[.int .i64 t904, .int .i64 t905, .int .i64 t906, .int .i64 t907, .slice Ao36 t908.length co36] 26 (0, 0)) (zbf BK912.out) hb); replace BK921 := zA (blk_below (g := gb921) (o := .cells #[.int .i64 t913, .int .i64 t914, .int .i64 t915, .int .i64 t916, .slice Ao46 t917.length co46] 26 (0, 0)) (zbf BK921.out) hb); replace BK935 := zA (blk_below (g := gb935) (o := .cells #[.int .i64 t927, .int .i64 t928, .int .i64 t929, .int .i64 t930, .slice Ao61 t931.length co61] 26 (0, 0)) (zbp BK935.out) hb); replace HB := zA (below_step zq0 hb); clear hb))
   go_ret
   exact ⟨(by first | rfl | (simp [errW_none, errW_some] <;> rfl) | (simp only [← hji49]; first | rfl | (simp [errW_none, errW_some] <;> rfl)) | (simp [*, errW_none, errW_some] <;> rfl)), zq0⟩
  exact absurd H.out zq219
 have hz75 := zc5 BK896.out
 go_upto_region 6 with (first | ((with_reducible refine zg95 rfl ?_); refine zl95 (some 25) #[.string t888, .agg #[.int .i64 t889, .int .i64 t890, .int .i64 t891, .int .i64 t892, .slice Ao13 t893.length co13]] ?_; (with_reducible refine (spec_PutMsg.calls k t888 t889 t890 t891 t892 _ _ t893 t900 _ ?side1 ?side2 A19.out).mono ?_); (case side1 => exact zq204); (case side2 => exact (Kd.S_reads' HO895.out).2.1); rintro e w76 ⟨v901, rfl, ho0, hb⟩; refine ⟨_, rfl, ?_⟩; replace HO895 := zA (Kd.S_below zq84 hb); have HO902 := zA (Kd.R_lower (Kd.R_new' ho0 (Kd.R_lt (zrk HO899.out))) (below_size zq0)); replace HO899 := zA (Kd.R_elder' (zrk HO899.out) (Kd.R_base ho0) hb); replace BK896 := zA (zbb BK896.out hb); replace HB := zA (below_step zq0 hb); clear hb ho0; obtain ⟨Ao77, co77, eo77⟩ := Kd.R_slice HO899.out; subst eo77; obtain ⟨Ao78, co78, eo78⟩ := Kd.R_slice HO902.out; subst eo78) | ((with_reducible refine zg25 rfl ?_); refine zl25 (some 26) #[.slice Ao77 t897.length co77, .slice Ao78 t900.length co78] ?_; (with_reducible refine (laws_sameBytes.calls k _ _ t897 _ _ t900 false _ ?side1 ?side2 ?side3 ?side4 A20.out).mono ?_); (case side1 => exact zq171); (case side2 => exact (Kd.R_reads' HO899.out).2.1); (case side3 => exact zq259); (case side4 => exact (Kd.R_reads' HO902.out).2.1); rintro e w' ⟨rfl, ⟨nd, rfl⟩⟩; refine ⟨_, rfl, ?_⟩))
 (try simp only [zvs])
 (try (rw [drewN_self w76]; generalize hq_ : World.drewN w76 _ = w76; replace HO895 := zA (Kd.S_at hq_ HO895.out); replace HO899 := zA (Kd.R_at hq_ HO899.out); replace HO902 := zA (Kd.R_at hq_ HO902.out); replace BK896 := zA (blk_at hq_ BK896.out); replace HB := zA (below_at hq_ HB.out); clear hq_))
 exact absurd H.out zq219

/-- THE ONE PURE STATEMENT of laws_FnMsgs: yours. -/
def laws_FnMsgs.Pure : Prop := ∀ (l0 : List Int), l0.length ≤ maxLen → l0.length * 1 ≤ 140737488351232 → (∀ x ∈ l0, (Lit.int .u8 x).wf = true) → ∃ k, laws_FnMsgs.f k l0 = some true
theorem laws_FnMsgs.walk (P : laws_FnMsgs.Pure) (a0 : Option Addr) (len0 cap0 : Nat) (z0 : List Int) (w : World) (w0 : (a0 = none ∧ len0 = 0 ∧ cap0 = 0 ∧ z0 = []) ∨ ∃ x, a0 = some x ∧ len0 ≤ cap0 ∧ cap0 ≤ maxLen ∧ z0.length = cap0 ∧ (∀ i, i < z0.length → w.cell? (x.add i) = some (.int .u8 (z0.getD i 0))) ∧ ∀ n ∈ z0, (Lit.int .u8 n).wf = true) (y0 : len0 * 1 ≤ 140737488351232) :
  Calls Try.prog 14 #[.slice a0 len0 cap0] w fun e w' => e = .returned (.bool true) ∧ Below w.heap.size w w' := by
 obtain ⟨l0, rfl, hr0, hm0, hw0, hc0⟩ := ReadsInt.ofRowC w0
 obtain ⟨k, h⟩ := P l0 hm0 y0 hw0
 refine (laws_FnMsgs.calls k _ _ l0 true w (Kd.C_of_reads (d := (0 : Int)) (h1 := fun _ => rfl) hr0) hc0 h).mono ?_
 rintro e w' ⟨rfl, hd⟩
 exact ⟨rfl, hd⟩

end Go.Proofs.Ytkcgghgkmgbphaa.PFnMsgs
