-- WRITTEN BY a turned copy of the kit's printer (wip/patch_print.py), for this claim
import Derived.Test.YtkcgghgkmgbphaaPFnMsgsx0
import Derived.Test.YtkcgghgkmgbphaaPFnMsgsx10
import Derived.Test.YtkcgghgkmgbphaaPFnMsgsx20
import Derived.Test.YtkcgghgkmgbphaaPFnMsgsx21
import Derived.Test.YtkcgghgkmgbphaaPFnMsgsx22
namespace Go.Proofs.Ytkcgghgkmgbphaa.PFnMsgs
open Go.RowKit Go.Proofs.YtkcgghgkmgbphaaW.PrintWords Go.Proofs.YtkcgghgkmgbphaaW.PrintLast Go.Proofs.YtkcgghgkmgbphaaW.PrintMore
attribute [local go_sem] max2_int min2_int max_two min_two max_three min_three max_four min_four   -- for this text's walks alone
set_option linter.unusedVariables false
set_option linter.unusedSimpArgs false
set_option maxHeartbeats 8000000
set_option maxRecDepth 100000

attribute [local go_sem] cell_setCell_m
/-! ### impl_GetVal: function 88 -/
def impl_GetVal.f (k : Nat) (l0 : List Int) (a1 : Int) : Option (Int × Int × ByteArray × List Int × Int × Bool) := (impl_GetTlv.f l0 a1).bind fun bt771 => (if bt771.2.2.2 = true then (if bt771.1 = 2 then ((impl_GetInt.f k bt771.2.1).bind fun bt778 => (if bt778.2 = true then ((impl_ValOk.f k bt771.1 bt778.1 (⟨#[]⟩ : ByteArray) ([] : List Int)).bind fun t780 => (if t780 = true then (some (bt771.1, bt778.1, (⟨#[]⟩ : ByteArray), ([] : List Int), bt771.2.2.1, true)) else (some (0, 0, (⟨#[]⟩ : ByteArray), ([] : List Int), 0, false)))) else (some (0, 0, (⟨#[]⟩ : ByteArray), ([] : List Int), 0, false)))) else (if bt771.1 = 4 then ((impl_ValOk.f k bt771.1 0 (strOfNums bt771.2.1) ([] : List Int)).bind fun t781 => (if t781 = true then (some (bt771.1, 0, strOfNums bt771.2.1, ([] : List Int), bt771.2.2.1, true)) else (some (0, 0, (⟨#[]⟩ : ByteArray), ([] : List Int), 0, false)))) else (if bt771.1 = 6 then ((impl_GetOid.f k bt771.2.1).bind fun bt782 => (if bt782.2 = true then ((impl_ValOk.f k bt771.1 0 (⟨#[]⟩ : ByteArray) bt782.1).bind fun t786 => (if t786 = true then (some (bt771.1, 0, (⟨#[]⟩ : ByteArray), bt782.1, bt771.2.2.1, true)) else (some (0, 0, (⟨#[]⟩ : ByteArray), ([] : List Int), 0, false)))) else (some (0, 0, (⟨#[]⟩ : ByteArray), ([] : List Int), 0, false)))) else (if ((bt771.2.1.length : Int) = 0) then ((impl_ValOk.f k bt771.1 0 (⟨#[]⟩ : ByteArray) ([] : List Int)).bind fun t787 => (if t787 = true then (some (bt771.1, 0, (⟨#[]⟩ : ByteArray), ([] : List Int), bt771.2.2.1, true)) else (some (0, 0, (⟨#[]⟩ : ByteArray), ([] : List Int), 0, false)))) else (some (0, 0, (⟨#[]⟩ : ByteArray), ([] : List Int), 0, false)))))) else (some (0, 0, (⟨#[]⟩ : ByteArray), ([] : List Int), 0, false)))
theorem impl_GetVal.mono : ∀ a0 a1 k, LeO (impl_GetVal.f k a0 a1) (impl_GetVal.f (k + 1) a0 a1) := by
 intro a0 a1 k
 unfold impl_GetVal.f
 have m0_ := @impl_GetInt.mono
 have m1_ := @impl_GetOid.mono
 have m2_ := @impl_ValOk.mono
 exact zR
theorem impl_GetVal.calls (k : Nat) (A0 : Option Addr) (c0 : Nat) (l0 : List Int) (a1 : Int) (r1 : Int) (r2 : Int) (r3 : ByteArray) (r4 : List Int) (r5 : Int) (r6 : Bool) (w : World) (hr0 : Kd.C (Kd.int .u8) w A0 l0.length l0) (hc0 : l0.length ≤ c0) (h : impl_GetVal.f k l0 a1 = some (r1, r2, r3, r4, r5, r6)) :
  Calls Try.prog 88 #[.slice A0 l0.length c0, .int .i64 a1] w fun e w' => ∃ v3_ : Value, e = .returned (.tuple #[.agg #[.int .i64 r1, .int .i64 r2, .string r3, v3_], .int .i64 r5, .bool r6]) ∧ Kd.R (Kd.int .i64) 3 w' w.heap.size (fun _ => True) v3_ r4 ∧ Below w.heap.size w w' := by
 have hu76 := Try.underlying76
 have HR0 := zA hr0
 have HC0 := zA hc0
 clear hr0 hc0
 have HB := zA (Below.refl w.heap.size w)
 unfold impl_GetVal.f at h
 have H := zA h
 clear h
 go_enter Try.func88, Try.ntmps88
 go_upto_region 0 with fail
 go_upto_region 1 with (first | ((with_reducible refine gate_dst (N := 4) rfl ?_); refine box_event ?hg (N := 4) ?hd (cs := #[.int .i64 0, .int .i64 0, .string (⟨#[]⟩ : ByteArray), .slice none 0 0]) (t := 76) ?hr ?_; (case hd => rfl); (case hg => rfl); (case hr => exact zgs); intro gb770 hg w5 hbox hb; have BK770 := zA (hbox); have GW770 := zA ((zq5 : w.heap.size ≤ gb770)); have GE770 := zA ((zq5 : w.heap.size ≤ gb770)); replace HB := zA (below_step zq0 hb); clear hb hbox hg))
 (try simp only [zvs])
 replace H := zB H; obtain ⟨⟨t771, t772, t773, t774⟩, A6, H⟩ := H
 try dsimp only at H
 go_upto_region 2 with (first | ((with_reducible refine zg112 rfl ?_); refine zl112 (some 15) #[.slice A0 l0.length c0, .int .i64 a1] ?_; (with_reducible refine (impl_GetTlv.calls _ _ l0 a1 t771 t772 t773 t774 _ ?side1 ?side2 A6.out).mono ?_); (case side1 => exact zq18); (case side2 => exact HC0.out); rintro e w8 ⟨v775, rfl, ho0, hb⟩; refine ⟨_, rfl, ?_⟩; have HO776 := zA (Kd.R_lower ho0 (below_size zq0)); replace BK770 := zA (zbb BK770.out hb); replace HB := zA (below_step zq0 hb); clear hb ho0))
 (try simp only [zvs])
 go_upto_region 3 with (first | ((with_reducible refine gate_dst (N := 11) rfl ?_); refine box_event ?hg (N := 11) ?hd (cs := #[.int .i64 0, .int .i64 0, .string (⟨#[]⟩ : ByteArray), .slice none 0 0]) (t := 76) ?hr ?_; (case hd => rfl); (case hg => rfl); (case hr => exact zgs); intro gb777 hg w10 hbox hb; replace HO776 := zA (Kd.R_below (zrk HO776.out) hb); have BK777 := zA (hbox); have GW777 := zA ((zq255 : w.heap.size ≤ gb777)); have GE777 := zA ((zq255 : w.heap.size ≤ gb777)); replace HB := zA (below_step zq0 hb); have NB770_777 := zA ((by rw [hg]; exact Nat.ne_of_lt (blk_lt (g := gb770) (o := .cells #[.int .i64 0, .int .i64 0, .string (⟨#[]⟩ : ByteArray), .slice none 0 0] 76 (0, 0)) (zbk BK770.out)) : gb770 ≠ gb777)); have NB777_770 := zA ((by rw [hg]; exact Nat.ne_of_gt (blk_lt (g := gb770) (o := .cells #[.int .i64 0, .int .i64 0, .string (⟨#[]⟩ : ByteArray), .slice none 0 0] 76 (0, 0)) (zbk BK770.out)) : gb777 ≠ gb770)); replace BK770 := zA (zbb BK770.out hb); clear hb hbox hg; have hn11 := zn NB777_770; have hz12 := zc4 BK777.out))
 (try simp only [zvs])
 replace H := zE H; rcases H with ⟨rfl, H⟩ | ⟨rfl, H⟩
 ·go_upto_region 5 with fail
  go_upto_region 7 with fail
  replace H := zP H; rcases H with ⟨c16, H⟩ | ⟨c16, H⟩
  ·have c16b0 : (t771 == 2) = true := beq_iff_eq.mpr c16
   have c16b1 : (t771 != 2) = false := bne_eq_false_iff_eq.mpr c16
   clear c16
   go_upto_region 8 with fail
   replace H := zB H; obtain ⟨⟨t778, t779⟩, A18, H⟩ := H
   try dsimp only at H
   obtain ⟨Ao20, co20, eo20⟩ := Kd.R_slice HO776.out
   subst eo20
   go_upto_region 13 with (first | ((with_reducible refine zg170 rfl ?_); refine zl170 (some 33) #[.slice Ao20 t772.length co20] ?_; (with_reducible refine (impl_GetInt.calls k _ _ t772 t778 t779 _ ?side1 ?side2 A18.out).mono ?_); (case side1 => exact (by refine (Kd.R_reads' (e := 5) (base := w.heap.size) (ok := fun k_ => True) (n := t772.length) (c := co20) ?_).2.2; exact zq49)); (case side2 => exact (Kd.R_reads' HO776.out).2.1); rintro e w21 ⟨rfl, hb⟩; refine ⟨_, rfl, ?_⟩; replace HO776 := zA (Kd.R_below zq49 hb); replace BK770 := zA (blk_below (g := gb770) (o := .cells #[.int .i64 0, .int .i64 0, .string (⟨#[]⟩ : ByteArray), .slice none 0 0] 76 (0, 0)) (zbf BK770.out) hb); replace BK777 := zA (blk_below (g := gb777) (o := .cells #[.int .i64 t771, .int .i64 0, .string (⟨#[]⟩ : ByteArray), .slice none 0 0] 76 (0, 0)) (zbp BK777.out) hb); replace HB := zA (below_step zq0 hb); clear hb; have hn22 := zn NB777_770; have hz23 := zc4 BK777.out))
   (try simp only [zvs])
   replace H := zE H; rcases H with ⟨rfl, H⟩ | ⟨rfl, H⟩
   ·replace H := zB H; obtain ⟨t780, A25, H⟩ := H
    try dsimp only at H
    replace H := zE H; rcases H with ⟨rfl, H⟩ | ⟨rfl, H⟩
    ·have hn28 := zn NB777_770
     have hz29 := zc4 BK777.out
     go_upto_region 15 with (first | (go_at_call 90; (refine (impl_ValOk.calls k t771 t778 (⟨#[]⟩ : ByteArray) _ _ ([] : List Int) true _ ?side1 ?side2 A25.out).mono ?_); (case side1 => exact Kd.C_nil _ _); (case side2 => exact Nat.le_refl _); rintro e w30 ⟨rfl, hb⟩; replace HO776 := zA (Kd.R_below zq226 hb); replace BK770 := zA (blk_below (g := gb770) (o := .cells #[.int .i64 0, .int .i64 0, .string (⟨#[]⟩ : ByteArray), .slice none 0 0] 76 (0, 0)) (zbf BK770.out) hb); replace BK777 := zA (blk_below (g := gb777) (o := .cells #[.int .i64 t771, .int .i64 t778, .string (⟨#[]⟩ : ByteArray), .slice none 0 0] 76 (0, 0)) (zbp BK777.out) hb); replace HB := zA (below_step zq0 hb); clear hb))
     (try simp only [zvs])
     obtain ⟨rfl, rfl, rfl, rfl, rfl, rfl⟩ := zt6 H
     have hn31 := zn NB777_770
     have hz32 := zc4 BK777.out
     have hz33 := zc4 BK770.out
     go_wp2
     refine bodyPost_ret (results_ctt rfl _ _ gb770 76 #[.int .i64 t771, .int .i64 t778, .string (⟨#[]⟩ : ByteArray), .slice none 0 0] (0, 0) _ rfl (zbp BK770.out) Try.underlying76 rfl (by kernel_rfl)) rfl ?_
     exact ⟨_, zq1, zq7, zq0⟩
    have hn35 := zn NB777_770
    have hz36 := zc4 BK777.out
    go_upto_region 14 with (first | (go_at_call 90; (refine (impl_ValOk.calls k t771 t778 (⟨#[]⟩ : ByteArray) _ _ ([] : List Int) false _ ?side1 ?side2 A25.out).mono ?_); (case side1 => exact Kd.C_nil _ _); (case side2 => exact Nat.le_refl _); rintro e w37 ⟨rfl, hb⟩; replace HO776 := zA (Kd.R_below zq226 hb); replace BK770 := zA (blk_below (g := gb770) (o := .cells #[.int .i64 0, .int .i64 0, .string (⟨#[]⟩ : ByteArray), .slice none 0 0] 76 (0, 0)) (zbf BK770.out) hb); replace BK777 := zA (blk_below (g := gb777) (o := .cells #[.int .i64 t771, .int .i64 t778, .string (⟨#[]⟩ : ByteArray), .slice none 0 0] 76 (0, 0)) (zbp BK777.out) hb); replace HB := zA (below_step zq0 hb); clear hb))
    (try simp only [zvs])
    obtain ⟨rfl, rfl, rfl, rfl, rfl, rfl⟩ := zt6 H
    have hn38 := zn NB770_777
    have hz39 := zc4 BK770.out
    go_wp2
    refine bodyPost_ret (results_ctt rfl _ _ gb770 76 #[.int .i64 0, .int .i64 0, .string (⟨#[]⟩ : ByteArray), .slice none 0 0] (0, 0) _ rfl (zbp BK770.out) Try.underlying76 rfl (by kernel_rfl)) rfl ?_
    exact ⟨_, zq1, zq7, zq0⟩
   go_upto_region 14 with fail
   obtain ⟨rfl, rfl, rfl, rfl, rfl, rfl⟩ := zt6 H
   have hn41 := zn NB770_777
   have hz42 := zc4 BK770.out
   go_wp2
   refine bodyPost_ret (results_ctt rfl _ _ gb770 76 #[.int .i64 0, .int .i64 0, .string (⟨#[]⟩ : ByteArray), .slice none 0 0] (0, 0) _ rfl (zbp BK770.out) Try.underlying76 rfl (by kernel_rfl)) rfl ?_
   exact ⟨_, zq1, zq7, zq0⟩
  have c16b0 : (t771 == 2) = false := beq_eq_false_iff_ne.mpr c16
  have c16b1 : (t771 != 2) = true := bne_iff_ne.mpr c16
  go_upto_region 9 with fail
  replace H := zP H; rcases H with ⟨c44, H⟩ | ⟨c44, H⟩
  ·have c44b0 : (t771 == 4) = true := beq_iff_eq.mpr c44
   have c44b1 : (t771 != 4) = false := bne_eq_false_iff_eq.mpr c44
   clear c44
   go_upto_region 10 with fail
   have hcv47 := own_string (P := Try.prog) Try.underlying22 Try.underlying5 Try.underlying9 (Kd.own_of_R (Kd.R_far (p := ⟨gb777, 3, none⟩) (Kd.R_far (p := ⟨gb777, 2, none⟩) (Kd.R_far (p := ⟨gb777, 1, none⟩) (Kd.R_far (p := ⟨gb777, 0, none⟩) (Kd.R_types HO776.out BK777.out zq52) (fun _ hk => hk.2) (.int .i64 t771)) (fun _ hk => hk.2) (.int .i64 0)) (fun _ hk => hk.2) (.string (⟨#[]⟩ : ByteArray))) (fun _ hk => hk.2) (.slice none 0 0)))
   have hn48 := zn NB777_770
   have hz49 := zc4 BK777.out
   go_upto_region 13 with fail
   replace H := zB H; obtain ⟨t781, A50, H⟩ := H
   try dsimp only at H
   replace H := zE H; rcases H with ⟨rfl, H⟩ | ⟨rfl, H⟩
   ·have hn53 := zn NB777_770
    have hz54 := zc4 BK777.out
    go_upto_region 15 with (first | (go_at_call 90; (refine (impl_ValOk.calls k t771 0 (strOfNums t772) _ _ ([] : List Int) true _ ?side1 ?side2 A50.out).mono ?_); (case side1 => exact Kd.C_nil _ _); (case side2 => exact Nat.le_refl _); rintro e w55 ⟨rfl, hb⟩; replace HO776 := zA (Kd.R_below zq158 hb); replace BK770 := zA (blk_below (g := gb770) (o := .cells #[.int .i64 0, .int .i64 0, .string (⟨#[]⟩ : ByteArray), .slice none 0 0] 76 (0, 0)) (zbf BK770.out) hb); replace BK777 := zA (blk_below (g := gb777) (o := .cells #[.int .i64 t771, .int .i64 0, .string (strOfNums t772), .slice none 0 0] 76 (0, 0)) (zbp BK777.out) hb); replace HB := zA (below_step zq0 hb); clear hb))
    (try simp only [zvs])
    obtain ⟨rfl, rfl, rfl, rfl, rfl, rfl⟩ := zt6 H
    have hn56 := zn NB777_770
    have hz57 := zc4 BK777.out
    have hz58 := zc4 BK770.out
    go_wp2
    refine bodyPost_ret (results_ctt rfl _ _ gb770 76 #[.int .i64 t771, .int .i64 0, .string (strOfNums t772), .slice none 0 0] (0, 0) _ rfl (zbp BK770.out) Try.underlying76 rfl (by kernel_rfl)) rfl ?_
    exact ⟨_, zq1, zq7, zq0⟩
   have hn60 := zn NB777_770
   have hz61 := zc4 BK777.out
   go_upto_region 14 with (first | (go_at_call 90; (refine (impl_ValOk.calls k t771 0 (strOfNums t772) _ _ ([] : List Int) false _ ?side1 ?side2 A50.out).mono ?_); (case side1 => exact Kd.C_nil _ _); (case side2 => exact Nat.le_refl _); rintro e w62 ⟨rfl, hb⟩; replace HO776 := zA (Kd.R_below zq158 hb); replace BK770 := zA (blk_below (g := gb770) (o := .cells #[.int .i64 0, .int .i64 0, .string (⟨#[]⟩ : ByteArray), .slice none 0 0] 76 (0, 0)) (zbf BK770.out) hb); replace BK777 := zA (blk_below (g := gb777) (o := .cells #[.int .i64 t771, .int .i64 0, .string (strOfNums t772), .slice none 0 0] 76 (0, 0)) (zbp BK777.out) hb); replace HB := zA (below_step zq0 hb); clear hb))
   (try simp only [zvs])
   obtain ⟨rfl, rfl, rfl, rfl, rfl, rfl⟩ := zt6 H
   have hn63 := zn NB770_777
   have hz64 := zc4 BK770.out
   go_wp2
   refine bodyPost_ret (results_ctt rfl _ _ gb770 76 #[.int .i64 0, .int .i64 0, .string (⟨#[]⟩ : ByteArray), .slice none 0 0] (0, 0) _ rfl (zbp BK770.out) Try.underlying76 rfl (by kernel_rfl)) rfl ?_
   exact ⟨_, zq1, zq7, zq0⟩
  have c44b0 : (t771 == 4) = false := beq_eq_false_iff_ne.mpr c44
  have c44b1 : (t771 != 4) = true := bne_iff_ne.mpr c44
  go_upto_region 11 with fail
  replace H := zP H; rcases H with ⟨c66, H⟩ | ⟨c66, H⟩
  ·have c66b0 : (t771 == 6) = true := beq_iff_eq.mpr c66
   have c66b1 : (t771 != 6) = false := bne_eq_false_iff_eq.mpr c66
   clear c66
   go_upto_region 12 with fail
   replace H := zB H; obtain ⟨⟨t782, t783⟩, A68, H⟩ := H
   try dsimp only at H
   obtain ⟨Ao70, co70, eo70⟩ := Kd.R_slice HO776.out
   subst eo70
   go_upto_region 13 with (first | ((with_reducible refine zg171 rfl ?_); refine zl171 (some 46) #[.slice Ao70 t772.length co70] ?_; (with_reducible refine (impl_GetOid.calls k _ _ t772 t782 t783 _ ?side1 ?side2 A68.out).mono ?_); (case side1 => exact (by refine (Kd.R_reads' (e := 5) (base := w.heap.size) (ok := fun k_ => True) (n := t772.length) (c := co70) ?_).2.2; exact zq49)); (case side2 => exact (Kd.R_reads' HO776.out).2.1); rintro e w71 ⟨v784, rfl, ho0, hb⟩; refine ⟨_, rfl, ?_⟩; replace HO776 := zA (Kd.R_below zq49 hb); have HO785 := zA (Kd.R_lower ho0 (below_size zq0)); replace BK770 := zA (blk_below (g := gb770) (o := .cells #[.int .i64 0, .int .i64 0, .string (⟨#[]⟩ : ByteArray), .slice none 0 0] 76 (0, 0)) (zbf BK770.out) hb); replace BK777 := zA (blk_below (g := gb777) (o := .cells #[.int .i64 t771, .int .i64 0, .string (⟨#[]⟩ : ByteArray), .slice none 0 0] 76 (0, 0)) (zbp BK777.out) hb); replace HB := zA (below_step zq0 hb); clear hb ho0; obtain ⟨Ao72, co72, eo72⟩ := Kd.R_slice HO785.out; subst eo72; have hn73 := zn NB777_770; have hz74 := zc4 BK777.out))
   (try simp only [zvs])
   replace H := zE H; rcases H with ⟨rfl, H⟩ | ⟨rfl, H⟩
   ·replace H := zB H; obtain ⟨t786, A76, H⟩ := H
    try dsimp only at H
    replace H := zE H; rcases H with ⟨rfl, H⟩ | ⟨rfl, H⟩
    ·have hn79 := zn NB777_770
     have hz80 := zc4 BK777.out
     go_upto_region 15 with (first | (go_at_call 90; (with_reducible refine (impl_ValOk.calls k t771 0 (⟨#[]⟩ : ByteArray) _ _ t782 true _ ?side1 ?side2 A76.out).mono ?_); (case side1 => exact zq190); (case side2 => exact (Kd.R_reads' HO785.out).2.1); rintro e w81 ⟨rfl, hb⟩; replace HO776 := zA (Kd.R_below zq225 hb); replace HO785 := zA (Kd.R_below zq124 hb); replace BK770 := zA (blk_below (g := gb770) (o := .cells #[.int .i64 0, .int .i64 0, .string (⟨#[]⟩ : ByteArray), .slice none 0 0] 76 (0, 0)) (zbf BK770.out) hb); replace BK777 := zA (blk_below (g := gb777) (o := .cells #[.int .i64 t771, .int .i64 0, .string (⟨#[]⟩ : ByteArray), .slice Ao72 t782.length co72] 76 (0, 0)) (zbp BK777.out) hb); replace HB := zA (below_step zq0 hb); clear hb))
     (try simp only [zvs])
     obtain ⟨rfl, rfl, rfl, rfl, rfl, rfl⟩ := zt6 H
     have hn82 := zn NB777_770
     have hz83 := zc4 BK777.out
     have hz84 := zc4 BK770.out
     go_wp2
     refine bodyPost_ret (results_ctt rfl _ _ gb770 76 #[.int .i64 t771, .int .i64 0, .string (⟨#[]⟩ : ByteArray), .slice Ao72 t782.length co72] (0, 0) _ rfl (zbp BK770.out) Try.underlying76 rfl (by kernel_rfl)) rfl ?_
     exact ⟨_, zq1, (by (with_reducible repeat (first | apply Kd.R_alloc | apply Kd.R_drewN | apply Kd.R_drew)); exact Kd.R_mono (Kd.R_far (p := ⟨gb770, 3, none⟩) (Kd.R_far (p := ⟨gb770, 2, none⟩) (Kd.R_far (p := ⟨gb770, 1, none⟩) (Kd.R_far (p := ⟨gb770, 0, none⟩) (Kd.R_types HO785.out BK770.out zq52) (fun _ hk => hk.2) (.int .i64 t771)) (fun _ hk => hk.2) (.int .i64 0)) (fun _ hk => hk.2) (.string (⟨#[]⟩ : ByteArray))) (fun _ hk => hk.2) (.slice Ao72 t782.length co72)) (fun _ hk => trivial)), zq0⟩
    have hn86 := zn NB777_770
    have hz87 := zc4 BK777.out
    go_upto_region 14 with (first | (go_at_call 90; (with_reducible refine (impl_ValOk.calls k t771 0 (⟨#[]⟩ : ByteArray) _ _ t782 false _ ?side1 ?side2 A76.out).mono ?_); (case side1 => exact zq190); (case side2 => exact (Kd.R_reads' HO785.out).2.1); rintro e w88 ⟨rfl, hb⟩; replace HO776 := zA (Kd.R_below zq225 hb); replace HO785 := zA (Kd.R_below zq124 hb); replace BK770 := zA (blk_below (g := gb770) (o := .cells #[.int .i64 0, .int .i64 0, .string (⟨#[]⟩ : ByteArray), .slice none 0 0] 76 (0, 0)) (zbf BK770.out) hb); replace BK777 := zA (blk_below (g := gb777) (o := .cells #[.int .i64 t771, .int .i64 0, .string (⟨#[]⟩ : ByteArray), .slice Ao72 t782.length co72] 76 (0, 0)) (zbp BK777.out) hb); replace HB := zA (below_step zq0 hb); clear hb))
    (try simp only [zvs])
    obtain ⟨rfl, rfl, rfl, rfl, rfl, rfl⟩ := zt6 H
    have hn89 := zn NB770_777
    have hz90 := zc4 BK770.out
    go_wp2
    refine bodyPost_ret (results_ctt rfl _ _ gb770 76 #[.int .i64 0, .int .i64 0, .string (⟨#[]⟩ : ByteArray), .slice none 0 0] (0, 0) _ rfl (zbp BK770.out) Try.underlying76 rfl (by kernel_rfl)) rfl ?_
    exact ⟨_, zq1, zq7, zq0⟩
   go_upto_region 14 with fail
   obtain ⟨rfl, rfl, rfl, rfl, rfl, rfl⟩ := zt6 H
   have hn92 := zn NB770_777
   have hz93 := zc4 BK770.out
   go_wp2
   refine bodyPost_ret (results_ctt rfl _ _ gb770 76 #[.int .i64 0, .int .i64 0, .string (⟨#[]⟩ : ByteArray), .slice none 0 0] (0, 0) _ rfl (zbp BK770.out) Try.underlying76 rfl (by kernel_rfl)) rfl ?_
   exact ⟨_, zq1, zq7, zq0⟩
  have c66b0 : (t771 == 6) = false := beq_eq_false_iff_ne.mpr c66
  have c66b1 : (t771 != 6) = true := bne_iff_ne.mpr c66
  go_upto_region 6 with fail
  obtain ⟨Ao96, co96, eo96⟩ := Kd.R_slice HO776.out
  subst eo96
  go_upto_region 13 with fail
  replace H := zP H; rcases H with ⟨c97, H⟩ | ⟨c97, H⟩
  ·have c97b0 : ((t772.length : Int) == 0) = true := beq_iff_eq.mpr c97
   have c97b1 : ((t772.length : Int) != 0) = false := bne_eq_false_iff_eq.mpr c97
   clear c97
   replace H := zB H; obtain ⟨t787, A98, H⟩ := H
   try dsimp only at H
   replace H := zE H; rcases H with ⟨rfl, H⟩ | ⟨rfl, H⟩
   ·have hn101 := zn NB777_770
    have hz102 := zc4 BK777.out
    go_upto_region 15 with (first | (go_at_call 90; (refine (impl_ValOk.calls k t771 0 (⟨#[]⟩ : ByteArray) _ _ ([] : List Int) true _ ?side1 ?side2 A98.out).mono ?_); (case side1 => exact Kd.C_nil _ _); (case side2 => exact Nat.le_refl _); rintro e w103 ⟨rfl, hb⟩; replace HO776 := zA (Kd.R_below zq49 hb); replace BK770 := zA (blk_below (g := gb770) (o := .cells #[.int .i64 0, .int .i64 0, .string (⟨#[]⟩ : ByteArray), .slice none 0 0] 76 (0, 0)) (zbf BK770.out) hb); replace BK777 := zA (blk_below (g := gb777) (o := .cells #[.int .i64 t771, .int .i64 0, .string (⟨#[]⟩ : ByteArray), .slice none 0 0] 76 (0, 0)) (zbp BK777.out) hb); replace HB := zA (below_step zq0 hb); clear hb))
    (try simp only [zvs])
    obtain ⟨rfl, rfl, rfl, rfl, rfl, rfl⟩ := zt6 H
    have hn104 := zn NB777_770
    have hz105 := zc4 BK777.out
    have hz106 := zc4 BK770.out
    go_wp2
    refine bodyPost_ret (results_ctt rfl _ _ gb770 76 #[.int .i64 t771, .int .i64 0, .string (⟨#[]⟩ : ByteArray), .slice none 0 0] (0, 0) _ rfl (zbp BK770.out) Try.underlying76 rfl (by kernel_rfl)) rfl ?_
    exact ⟨_, zq1, zq7, zq0⟩
   have hn108 := zn NB777_770
   have hz109 := zc4 BK777.out
   go_upto_region 14 with (first | (go_at_call 90; (refine (impl_ValOk.calls k t771 0 (⟨#[]⟩ : ByteArray) _ _ ([] : List Int) false _ ?side1 ?side2 A98.out).mono ?_); (case side1 => exact Kd.C_nil _ _); (case side2 => exact Nat.le_refl _); rintro e w110 ⟨rfl, hb⟩; replace HO776 := zA (Kd.R_below zq49 hb); replace BK770 := zA (blk_below (g := gb770) (o := .cells #[.int .i64 0, .int .i64 0, .string (⟨#[]⟩ : ByteArray), .slice none 0 0] 76 (0, 0)) (zbf BK770.out) hb); replace BK777 := zA (blk_below (g := gb777) (o := .cells #[.int .i64 t771, .int .i64 0, .string (⟨#[]⟩ : ByteArray), .slice none 0 0] 76 (0, 0)) (zbp BK777.out) hb); replace HB := zA (below_step zq0 hb); clear hb))
   (try simp only [zvs])
   obtain ⟨rfl, rfl, rfl, rfl, rfl, rfl⟩ := zt6 H
   have hn111 := zn NB770_777
   have hz112 := zc4 BK770.out
   go_wp2
   refine bodyPost_ret (results_ctt rfl _ _ gb770 76 #[.int .i64 0, .int .i64 0, .string (⟨#[]⟩ : ByteArray), .slice none 0 0] (0, 0) _ rfl (zbp BK770.out) Try.underlying76 rfl (by kernel_rfl)) rfl ?_
   exact ⟨_, zq1, zq7, zq0⟩
  have c97b0 : ((t772.length : Int) == 0) = false := beq_eq_false_iff_ne.mpr c97
  have c97b1 : ((t772.length : Int) != 0) = true := bne_iff_ne.mpr c97
  have c97b2 : ¬ (t772 = []) := fun h_ => c97 (by rw [h_]; rfl)
  go_upto_region 14 with fail
  obtain ⟨rfl, rfl, rfl, rfl, rfl, rfl⟩ := zt6 H
  have hn114 := zn NB770_777
  have hz115 := zc4 BK770.out
  go_wp2
  refine bodyPost_ret (results_ctt rfl _ _ gb770 76 #[.int .i64 0, .int .i64 0, .string (⟨#[]⟩ : ByteArray), .slice none 0 0] (0, 0) _ rfl (zbp BK770.out) Try.underlying76 rfl (by kernel_rfl)) rfl ?_
  exact ⟨_, zq1, zq7, zq0⟩
 go_upto_region 4 with fail
 obtain ⟨rfl, rfl, rfl, rfl, rfl, rfl⟩ := zt6 H
 have hn117 := zn NB770_777
 have hz118 := zc4 BK770.out
 go_wp2
 refine bodyPost_ret (results_ctt rfl _ _ gb770 76 #[.int .i64 0, .int .i64 0, .string (⟨#[]⟩ : ByteArray), .slice none 0 0] (0, 0) _ rfl (zbp BK770.out) Try.underlying76 rfl (by kernel_rfl)) rfl ?_
 exact ⟨_, zq1, zq7, zq0⟩

end Go.Proofs.Ytkcgghgkmgbphaa.PFnMsgs
