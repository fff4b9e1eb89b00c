-- WRITTEN BY a turned copy of the kit's printer (wip/patch_print.py), for this claim
import Derived.Test.YtkcgghgkmgbphaaPFnMsgsx0
import Derived.Test.YtkcgghgkmgbphaaPFnMsgsx21
import Derived.Test.YtkcgghgkmgbphaaPFnMsgsx22
import Derived.Test.YtkcgghgkmgbphaaPFnMsgsx23
namespace Go.Proofs.Ytkcgghgkmgbphaa.PFnMsgs
open Go.RowKit Go.Proofs.YtkcgghgkmgbphaaW.PrintWords Go.Proofs.YtkcgghgkmgbphaaW.PrintLast Go.Proofs.YtkcgghgkmgbphaaW.PrintMore
attribute [local go_sem] max2_int min2_int max_two min_two max_three min_three max_four min_four   -- for this text's walks alone
set_option linter.unusedVariables false
set_option linter.unusedSimpArgs false
set_option maxHeartbeats 8000000
set_option maxRecDepth 100000

attribute [local go_sem] cell_setCell_m
/-! ### impl_bindOf: function 116 -/
def impl_bindOf.f (k : Nat) (l0 : List Int) : Option (List Int × Int × Int × ByteArray × List Int × Bool) := (impl_parts_part.f l0 0 false 6).bind fun bt790 => ((impl_GetOid.f k bt790.1).bind fun bt795 => ((impl_GetVal.f k l0 bt790.2.1).bind fun bt799 => (if bt790.2.2 = true then (some (([] : List Int), 0, 0, (⟨#[]⟩ : ByteArray), ([] : List Int), false)) else (if bt795.2 = true then (if bt799.2.2.2.2.2 = true then (if bt799.2.2.2.2.1 = (l0.length : Int) then (some (bt795.1, bt799.1, bt799.2.1, bt799.2.2.1, bt799.2.2.2.1, true)) else (some (([] : List Int), 0, 0, (⟨#[]⟩ : ByteArray), ([] : List Int), false))) else (some (([] : List Int), 0, 0, (⟨#[]⟩ : ByteArray), ([] : List Int), false))) else (some (([] : List Int), 0, 0, (⟨#[]⟩ : ByteArray), ([] : List Int), false))))))
theorem impl_bindOf.mono : ∀ a0 k, LeO (impl_bindOf.f k a0) (impl_bindOf.f (k + 1) a0) := by
 intro a0 k
 unfold impl_bindOf.f
 have m0_ := @impl_GetOid.mono
 have m1_ := @impl_GetVal.mono
 exact zR
theorem impl_bindOf.calls (k : Nat) (A0 : Option Addr) (c0 : Nat) (l0 : List Int) (r1 : List Int) (r2 : Int) (r3 : Int) (r4 : ByteArray) (r5 : List Int) (r6 : Bool) (w : World) (hr0 : Kd.C (Kd.int .u8) w A0 l0.length l0) (hc0 : l0.length ≤ c0) (h : impl_bindOf.f k l0 = some (r1, r2, r3, r4, r5, r6)) :
  Calls Try.prog 116 #[.slice A0 l0.length c0] w fun e w' => ∃ v0_ v4_ : Value, e = .returned (.tuple #[.agg #[v0_, .int .i64 r2, .int .i64 r3, .string r4, v4_], .bool r6]) ∧ Kd.R (Kd.int .i64) 3 w' w.heap.size (fun k_ => some k_ ≠ (v4_ : Value).ownBlock) v0_ r1 ∧ Kd.R (Kd.int .i64) 3 w' w.heap.size (fun k_ => some k_ ≠ (v0_ : Value).ownBlock) v4_ r5 ∧ Below w.heap.size w w' := by
 have hu116 := Try.underlying116
 have hu127 := Try.underlying127
 have hu76 := Try.underlying76
 have HR0 := zA hr0
 have HC0 := zA hc0
 clear hr0 hc0
 have HB := zA (Below.refl w.heap.size w)
 unfold impl_bindOf.f at h
 have H := zA h
 clear h
 go_enter Try.func116, Try.ntmps116
 go_upto_region 0 with fail
 go_upto_region 1 with (first | ((with_reducible refine gate_dst (N := 2) rfl ?_); (try (refine gate_guard zq94 ?_; dsimp only)); refine box_event ?hg (N := 2) ?hd (cs := #[.slice none 0 0, .int .i64 0, .int .i64 0, .string (⟨#[]⟩ : ByteArray), .slice none 0 0]) (t := 116) ?hr ?_; (case hd => rfl); (case hg => rfl); (case hr => exact zgs); intro gb788 hg w4 hbox hb; have BK788 := zA (hbox); have GW788 := zA ((zq5 : w.heap.size ≤ gb788)); have GE788 := zA ((zq5 : w.heap.size ≤ gb788)); replace HB := zA (below_step zq0 hb); clear hb hbox hg))
 (try simp only [zvs])
 go_upto_region 2 with (first | ((with_reducible refine gate_dst (N := 12) rfl ?_); (try (refine gate_guard zq94 ?_; dsimp only)); refine box_event ?hg (N := 12) ?hd (cs := #[.slice A0 l0.length c0, .int .i64 0, .bool false]) (t := 127) ?hr ?_; (case hd => rfl); (case hg => rfl); (case hr => exact zgs); intro g789 hg w6 hbox hb2; have hi : IsS127 w w6 g789 A0 c0 l0 0 false := ⟨_, _, hbox, ⟨(by rw [hg]; exact (below_size zq0)), rfl, rfl⟩, ⟨HR0.out, HC0.out⟩⟩; have hb := below_step zq0 hb2; replace HB := zA (hb); have HI789 := zA (hi); have NB789_788 := zA (IsS127.ne_blk hi (zbb BK788.out hb2) zq52); have NB788_789 := zA (Ne.symm (IsS127.ne_blk hi (zbb BK788.out hb2) zq52)); replace BK788 := zA (zbb BK788.out hb2); clear hb hb2 hbox hg hi))
 (try simp only [zvs])
 replace H := zB H; obtain ⟨⟨t790, t793, t794⟩, A7, H⟩ := H
 try dsimp only at H
 replace H := zB H; obtain ⟨⟨t795, t796⟩, A8, H⟩ := H
 try dsimp only at H
 go_upto_region 3 with (first | ((with_reducible refine zg114 rfl ?_); refine zl114 (some 15) #[.pointer (some ⟨g789, 0, none⟩), .int .i64 6] ?_; (with_reducible refine (impl_parts_part.calls g789 A0 c0 l0 0 false 6 t790 t793 t794 w _ ?side1 ?side2 A7.out).mono ?_); (case side1 => exact zq100); (case side2 => exact zq71); rintro e w10 ⟨v791, rfl, ho0, hi, hb, hk⟩; refine ⟨_, rfl, ?_⟩; replace BK788 := zA (zkb hk BK788.out NB788_789.out); have HO792 := zA (Kd.R_lower ho0 (below_size zq71)); replace HB := zA (hb); replace HI789 := zA (hi); clear hb hk hi ho0; obtain ⟨Ao11, co11, eo11⟩ := Kd.R_slice HO792.out; subst eo11) | ((with_reducible refine zg171 rfl ?_); refine zl171 (some 16) #[.slice Ao11 t790.length co11] ?_; (with_reducible refine (impl_GetOid.calls k _ _ t790 t795 t796 _ ?side1 ?side2 A8.out).mono ?_); (case side1 => exact (zck (Kd.R_reads' HO792.out).2.2)); (case side2 => exact (Kd.R_reads' HO792.out).2.1); rintro e w12 ⟨v797, rfl, ho0, hb⟩; refine ⟨_, rfl, ?_⟩; replace HO792 := zA (Kd.R_below (zrk HO792.out) hb); have HO798 := zA (Kd.R_lower ho0 (below_size zq71)); replace BK788 := zA (zbb BK788.out hb); replace HB := zA (below_step zq71 hb); replace HI789 := zA (IsS127.below zq100 hb); clear hb ho0))
 (try simp only [zvs])
 replace H := zB H; obtain ⟨⟨t799, t800, t801, t802, t805, t806⟩, A13, H⟩ := H
 try dsimp only at H
 obtain ⟨ASz15_0, cSz15_0, HGz15, hgz15, ⟨HSz15_0, HSKz15_0⟩⟩ := HI789.out
 have HSCz15_0 := zA HSKz15_0
 clear HSKz15_0
 have hcz15_0 := cellS127_0 HGz15
 have hcz15_1 := cellS127_1 HGz15
 have hcz15_2 := cellS127_2 HGz15
 have hfz15_1 := blk_frozen HGz15 1
 have hfz15_2 := blk_frozen HGz15 2
 clear HGz15 hgz15
 go_upto_region 4 with (first | ((with_reducible refine zg88 rfl ?_); refine zl88 (some 25) #[.slice A0 l0.length c0, .int .i64 t793] ?_; (with_reducible refine (impl_GetVal.calls k _ _ l0 t793 t799 t800 t801 t802 t805 t806 _ ?side1 ?side2 A13.out).mono ?_); (case side1 => exact zq18); (case side2 => exact HC0.out); rintro e w16 ⟨v803, rfl, ho0, hb⟩; refine ⟨_, rfl, ?_⟩; replace HO792 := zA (Kd.R_below (zrk HO792.out) hb); have HO804 := zA (Kd.R_lower (Kd.R_new' ho0 (Kd.R_lt (zrk HO798.out))) (below_size zq71)); replace HO798 := zA (Kd.R_elder' (zrk HO798.out) (Kd.R_base ho0) hb); replace BK788 := zA (zbb BK788.out hb); replace HB := zA (below_step zq71 hb); replace HI789 := zA (IsS127.below zq100 hb); clear hb ho0) | ((with_reducible refine gate_dst (N := 7) rfl ?_); (try (refine gate_guard zq94 ?_; dsimp only)); refine box_event ?hg (N := 7) ?hd (cs := #[.int .i64 0, .int .i64 0, .string (⟨#[]⟩ : ByteArray), .slice none 0 0]) (t := 76) ?hr ?_; (case hd => rfl); (case hg => rfl); (case hr => exact zgs); intro gb807 hg w17 hbox hb; replace HO792 := zA (Kd.R_below (zrk HO792.out) hb); replace HO798 := zA (Kd.R_below (zrk HO798.out) hb); replace HO804 := zA (Kd.R_below (zrk HO804.out) hb); have BK807 := zA (hbox); have GW807 := zA ((zq230 : w.heap.size ≤ gb807)); have GE807 := zA ((zq230 : w.heap.size ≤ gb807)); replace HB := zA (below_step zq71 hb); have NB788_807 := zA ((by rw [hg]; exact Nat.ne_of_lt (blk_lt (g := gb788) (o := .cells #[.slice none 0 0, .int .i64 0, .int .i64 0, .string (⟨#[]⟩ : ByteArray), .slice none 0 0] 116 (0, 0)) (zbk BK788.out)) : gb788 ≠ gb807)); have NB807_788 := zA ((by rw [hg]; exact Nat.ne_of_gt (blk_lt (g := gb788) (o := .cells #[.slice none 0 0, .int .i64 0, .int .i64 0, .string (⟨#[]⟩ : ByteArray), .slice none 0 0] 116 (0, 0)) (zbk BK788.out)) : gb807 ≠ gb788)); replace BK788 := zA (zbb BK788.out hb); have NB789_807 := zA ((by rw [hg]; exact Nat.ne_of_lt (IsS127.lt (show IsS127 w _ g789 A0 c0 l0 t793 t794 from zq100)) : g789 ≠ gb807)); have NB807_789 := zA ((by rw [hg]; exact Nat.ne_of_gt (IsS127.lt (show IsS127 w _ g789 A0 c0 l0 t793 t794 from zq100)) : gb807 ≠ g789)); replace HI789 := zA (IsS127.below zq100 hb); clear hb hbox hg; have hn18 := zn NB807_788; have hn19 := zn NB807_789; have hz20 := zc4 BK807.out; obtain ⟨Ao21, co21, eo21⟩ := Kd.R_slice HO804.out; subst eo21))
 (try simp only [zvs])
 replace H := zE H; rcases H with ⟨rfl, H⟩ | ⟨rfl, H⟩
 ·obtain ⟨ASz24_0, cSz24_0, HGz24, hgz24, ⟨HSz24_0, HSKz24_0⟩⟩ := HI789.out
  have HSCz24_0 := zA HSKz24_0
  clear HSKz24_0
  have hcz24_0 := cellS127_0 HGz24
  have hcz24_1 := cellS127_1 HGz24
  have hcz24_2 := cellS127_2 HGz24
  have hfz24_1 := blk_frozen HGz24 1
  have hfz24_2 := blk_frozen HGz24 2
  clear HGz24 hgz24
  go_upto_region 5 with fail
  obtain ⟨rfl, rfl, rfl, rfl, rfl, rfl⟩ := zt6 H
  have hn25 := zn NB788_807
  have hn26 := zn NB788_789
  have hz27 := zc5 BK788.out
  go_wp2
  refine bodyPost_ret (results_ct rfl _ _ gb788 116 #[.slice none 0 0, .int .i64 0, .int .i64 0, .string (⟨#[]⟩ : ByteArray), .slice none 0 0] (0, 0) _ rfl (zbp BK788.out) Try.underlying116 rfl (by kernel_rfl)) rfl ?_
  exact ⟨_, _, zq1, zq7, zq7, zq109⟩
 by_cases c28 : t796 = true
 ·subst c28
  rw [if_pos rfl] at H
  replace H := zE H; rcases H with ⟨rfl, H⟩ | ⟨rfl, H⟩
  ·by_cases c30 : t805 = (l0.length : Int)
   ·rw [if_pos c30] at H
    have c30b0 : (t805 == (l0.length : Int)) = true := beq_iff_eq.mpr c30
    have c30b1 : (t805 != (l0.length : Int)) = false := bne_eq_false_iff_eq.mpr c30
    clear c30
    obtain ⟨ASz32_0, cSz32_0, HGz32, hgz32, ⟨HSz32_0, HSKz32_0⟩⟩ := HI789.out
    have HSCz32_0 := zA HSKz32_0
    clear HSKz32_0
    have hcz32_0 := cellS127_0 HGz32
    have hcz32_1 := cellS127_1 HGz32
    have hcz32_2 := cellS127_2 HGz32
    have hfz32_1 := blk_frozen HGz32 1
    have hfz32_2 := blk_frozen HGz32 2
    clear HGz32 hgz32
    go_upto_region 6 with fail
    obtain ⟨rfl, rfl, rfl, rfl, rfl, rfl⟩ := zt6 H
    have hn33 := zn NB807_788
    have hn34 := zn NB807_789
    have hz35 := zc4 BK807.out
    obtain ⟨Ao36, co36, eo36⟩ := Kd.R_slice HO798.out
    subst eo36
    have hn37 := zn NB788_789
    have hz38 := zc5 BK788.out
    go_wp2
    refine bodyPost_ret (results_ct rfl _ _ gb788 116 #[.slice Ao36 t795.length co36, .int .i64 t799, .int .i64 t800, .string t801, .slice Ao21 t802.length co21] (0, 0) _ rfl (zbp BK788.out) Try.underlying116 rfl (by kernel_rfl)) rfl ?_
    exact ⟨_, _, zq1, (by (with_reducible repeat (first | apply Kd.R_alloc | apply Kd.R_drewN | apply Kd.R_drew)); exact Kd.R_mono (Kd.R_far (p := ⟨gb788, 4, none⟩) (Kd.R_far (p := ⟨gb788, 3, none⟩) (Kd.R_far (p := ⟨gb788, 2, none⟩) (Kd.R_far (p := ⟨gb788, 1, none⟩) (Kd.R_far (p := ⟨gb788, 0, none⟩) (Kd.R_far (p := ⟨gb807, 3, none⟩) (Kd.R_far (p := ⟨gb807, 2, none⟩) (Kd.R_far (p := ⟨gb807, 1, none⟩) (Kd.R_far (p := ⟨gb807, 0, none⟩) (Kd.R_types (Kd.R_types HO798.out BK807.out zq52) BK788.out zq52) (fun _ hk => hk.1.2) (.int .i64 t799)) (fun _ hk => hk.1.2) (.int .i64 t800)) (fun _ hk => hk.1.2) (.string t801)) (fun _ hk => hk.1.2) (.slice Ao21 t802.length co21)) (fun _ hk => hk.2) (.slice Ao36 t795.length co36)) (fun _ hk => hk.2) (.int .i64 t799)) (fun _ hk => hk.2) (.int .i64 t800)) (fun _ hk => hk.2) (.string t801)) (fun _ hk => hk.2) (.slice Ao21 t802.length co21)) (fun _ hk => hk.1.1.2)), (by (with_reducible repeat (first | apply Kd.R_alloc | apply Kd.R_drewN | apply Kd.R_drew)); exact Kd.R_mono (Kd.R_far (p := ⟨gb788, 4, none⟩) (Kd.R_far (p := ⟨gb788, 3, none⟩) (Kd.R_far (p := ⟨gb788, 2, none⟩) (Kd.R_far (p := ⟨gb788, 1, none⟩) (Kd.R_far (p := ⟨gb788, 0, none⟩) (Kd.R_far (p := ⟨gb807, 3, none⟩) (Kd.R_far (p := ⟨gb807, 2, none⟩) (Kd.R_far (p := ⟨gb807, 1, none⟩) (Kd.R_far (p := ⟨gb807, 0, none⟩) (Kd.R_types (Kd.R_types HO804.out BK807.out zq52) BK788.out zq52) (fun _ hk => hk.1.2) (.int .i64 t799)) (fun _ hk => hk.1.2) (.int .i64 t800)) (fun _ hk => hk.1.2) (.string t801)) (fun _ hk => hk.1.2) (.slice Ao21 t802.length co21)) (fun _ hk => hk.2) (.slice Ao36 t795.length co36)) (fun _ hk => hk.2) (.int .i64 t799)) (fun _ hk => hk.2) (.int .i64 t800)) (fun _ hk => hk.2) (.string t801)) (fun _ hk => hk.2) (.slice Ao21 t802.length co21)) (fun _ hk => hk.1.1.2)), zq109⟩
   ·rw [if_neg c30] at H
    have c30b0 : (t805 == (l0.length : Int)) = false := beq_eq_false_iff_ne.mpr c30
    have c30b1 : (t805 != (l0.length : Int)) = true := bne_iff_ne.mpr c30
    obtain ⟨ASz40_0, cSz40_0, HGz40, hgz40, ⟨HSz40_0, HSKz40_0⟩⟩ := HI789.out
    have HSCz40_0 := zA HSKz40_0
    clear HSKz40_0
    have hcz40_0 := cellS127_0 HGz40
    have hcz40_1 := cellS127_1 HGz40
    have hcz40_2 := cellS127_2 HGz40
    have hfz40_1 := blk_frozen HGz40 1
    have hfz40_2 := blk_frozen HGz40 2
    clear HGz40 hgz40
    go_upto_region 5 with fail
    obtain ⟨rfl, rfl, rfl, rfl, rfl, rfl⟩ := zt6 H
    have hn41 := zn NB788_807
    have hn42 := zn NB788_789
    have hz43 := zc5 BK788.out
    go_wp2
    refine bodyPost_ret (results_ct rfl _ _ gb788 116 #[.slice none 0 0, .int .i64 0, .int .i64 0, .string (⟨#[]⟩ : ByteArray), .slice none 0 0] (0, 0) _ rfl (zbp BK788.out) Try.underlying116 rfl (by kernel_rfl)) rfl ?_
    exact ⟨_, _, zq1, zq7, zq7, zq109⟩
  obtain ⟨ASz45_0, cSz45_0, HGz45, hgz45, ⟨HSz45_0, HSKz45_0⟩⟩ := HI789.out
  have HSCz45_0 := zA HSKz45_0
  clear HSKz45_0
  have hcz45_0 := cellS127_0 HGz45
  have hcz45_1 := cellS127_1 HGz45
  have hcz45_2 := cellS127_2 HGz45
  have hfz45_1 := blk_frozen HGz45 1
  have hfz45_2 := blk_frozen HGz45 2
  clear HGz45 hgz45
  go_upto_region 5 with fail
  obtain ⟨rfl, rfl, rfl, rfl, rfl, rfl⟩ := zt6 H
  have hn46 := zn NB788_807
  have hn47 := zn NB788_789
  have hz48 := zc5 BK788.out
  go_wp2
  refine bodyPost_ret (results_ct rfl _ _ gb788 116 #[.slice none 0 0, .int .i64 0, .int .i64 0, .string (⟨#[]⟩ : ByteArray), .slice none 0 0] (0, 0) _ rfl (zbp BK788.out) Try.underlying116 rfl (by kernel_rfl)) rfl ?_
  exact ⟨_, _, zq1, zq7, zq7, zq109⟩
 ·replace c28 := Bool.eq_false_iff.mpr c28
  subst c28
  rw [if_neg zF] at H
  obtain ⟨ASz50_0, cSz50_0, HGz50, hgz50, ⟨HSz50_0, HSKz50_0⟩⟩ := HI789.out
  have HSCz50_0 := zA HSKz50_0
  clear HSKz50_0
  have hcz50_0 := cellS127_0 HGz50
  have hcz50_1 := cellS127_1 HGz50
  have hcz50_2 := cellS127_2 HGz50
  have hfz50_1 := blk_frozen HGz50 1
  have hfz50_2 := blk_frozen HGz50 2
  clear HGz50 hgz50
  go_upto_region 5 with fail
  obtain ⟨rfl, rfl, rfl, rfl, rfl, rfl⟩ := zt6 H
  have hn51 := zn NB788_807
  have hn52 := zn NB788_789
  have hz53 := zc5 BK788.out
  go_wp2
  refine bodyPost_ret (results_ct rfl _ _ gb788 116 #[.slice none 0 0, .int .i64 0, .int .i64 0, .string (⟨#[]⟩ : ByteArray), .slice none 0 0] (0, 0) _ rfl (zbp BK788.out) Try.underlying116 rfl (by kernel_rfl)) rfl ?_
  exact ⟨_, _, zq1, zq7, zq7, zq109⟩

end Go.Proofs.Ytkcgghgkmgbphaa.PFnMsgs
