-- WRITTEN BY a turned copy of the kit's printer (wip/patch_print.py), for this claim
import Derived.Test.YtkcgghgkmgbphaaPFnMsgsx0
import Derived.Test.YtkcgghgkmgbphaaPFnMsgsx14
import Derived.Test.YtkcgghgkmgbphaaPFnMsgsx20
import Derived.Test.YtkcgghgkmgbphaaPFnMsgsx21
import Derived.Test.YtkcgghgkmgbphaaPFnMsgsx22
import Derived.Test.YtkcgghgkmgbphaaPFnMsgsx24
namespace Go.Proofs.Ytkcgghgkmgbphaa.PFnMsgs
open Go.RowKit Go.Proofs.YtkcgghgkmgbphaaW.PrintWords Go.Proofs.YtkcgghgkmgbphaaW.PrintLast Go.Proofs.YtkcgghgkmgbphaaW.PrintMore
attribute [local go_sem] max2_int min2_int max_two min_two max_three min_three max_four min_four   -- for this text's walks alone
set_option linter.unusedVariables false
set_option linter.unusedSimpArgs false
set_option maxHeartbeats 8000000
set_option maxRecDepth 100000

attribute [local go_sem] cell_setCell_m
/-! ### impl_GetPdu: function 22 -/
mutual
def impl_GetPdu.j0 : Nat → List Int → Int → List Int → Bool → Option (Int × Int × Int × Int × (List (S116)) × Bool)
 | 0, _, _, _, _ => none
 | k + 1, x0, x4, x5, x28 => if x28 = true then (some (0, 0, 0, 0, ([] : List (S116)), false)) else ((impl_parts_num.f k x5 0 false 2).bind fun bt817 => ((impl_parts_num.f k x5 bt817.2.1 bt817.2.2 2).bind fun bt820 => ((impl_parts_num.f k x5 bt820.2.1 bt820.2.2 2).bind fun bt823 => ((impl_parts_part.f x5 bt823.2.1 bt823.2.2 48).bind fun bt826 => ((impl_parts_done.f x5 bt826.2.1 bt826.2.2).bind fun bt832 => (if bt832.1 = true then (impl_GetPdu.l0 k x0 x4 bt817.1 bt820.1 bt823.1 ([] : List (S116)) bt826.1 0 false) else (some (0, 0, 0, 0, ([] : List (S116)), false))))))))
def impl_GetPdu.l0 : Nat → List Int → Int → Int → Int → Int → List (S116) → List Int → Int → Bool → Option (Int × Int × Int × Int × (List (S116)) × Bool)
 | 0, _, _, _, _, _, _, _, _, _ => none
 | k + 1, x0, x816000, x816001, x816002, x816003, x816004, x832000, x832001, x832002 => if x832001 < (x832000.length : Int) then ((impl_parts_part.f x832000 x832001 x832002 48).bind fun bt838 => ((impl_bindOf.f k bt838.1).bind fun bt843 => (if bt843.2.2.2.2.2 = true then (if (x816004.length : Int) ≥ 10 then (some (0, 0, 0, 0, ([] : List (S116)), false)) else (if x816004.length < 1759218604441 then (impl_GetPdu.l0 k x0 x816000 x816001 x816002 x816003 (x816004 ++ [(⟨bt843.1, (⟨bt843.2.1, bt843.2.2.1, bt843.2.2.2.1, bt843.2.2.2.2.1⟩ : S76)⟩ : S116)]) x832000 bt838.2.1 bt838.2.2) else (none))) else (some (0, 0, 0, 0, ([] : List (S116)), false))))) else ((impl_PutPdu.f k x816000 x816001 x816002 x816003 x816004).bind fun t835 => (if (t835.length : Int) = 0 then (some (0, 0, 0, 0, ([] : List (S116)), false)) else (if (strOfNums t835).toList = (strOfNums x0).toList then (some (x816000, x816001, x816002, x816003, x816004, true)) else (some (0, 0, 0, 0, ([] : List (S116)), false)))))
end
def impl_GetPdu.f (k : Nat) (l0 : List Int) : Option (Int × Int × Int × Int × (List (S116)) × Bool) := (impl_GetTlv.f l0 0).bind fun bt809 => (if bt809.2.2.2 = true then (impl_GetPdu.j0 k l0 bt809.1 bt809.2.1 (bt809.2.2.1 != (l0.length : Int))) else (impl_GetPdu.j0 k l0 bt809.1 bt809.2.1 true))
theorem impl_GetPdu.mono_l : ∀ k, (∀ y0 y1 y2 y3, LeO (impl_GetPdu.j0 k y0 y1 y2 y3) (impl_GetPdu.j0 (k + 1) y0 y1 y2 y3)) ∧ (∀ y0 y1 y2 y3 y4 y5 y6 y7 y8, LeO (impl_GetPdu.l0 k y0 y1 y2 y3 y4 y5 y6 y7 y8) (impl_GetPdu.l0 (k + 1) y0 y1 y2 y3 y4 y5 y6 y7 y8))
 | 0 => ⟨fun _ _ _ _ r h => by simp [impl_GetPdu.j0] at h, fun _ _ _ _ _ _ _ _ _ r h => by simp [impl_GetPdu.l0] at h⟩
 | k + 1 => by
  obtain ⟨ih0, ih1⟩ := impl_GetPdu.mono_l k
  refine ⟨?_, ?_⟩
  ·intro y0 y1 y2 y3
   unfold impl_GetPdu.j0
   have m0_ := @impl_PutPdu.mono
   have m1_ := @impl_bindOf.mono
   have m2_ := @impl_parts_num.mono
   exact zR
  ·intro y0 y1 y2 y3 y4 y5 y6 y7 y8
   unfold impl_GetPdu.l0
   have m0_ := @impl_PutPdu.mono
   have m1_ := @impl_bindOf.mono
   have m2_ := @impl_parts_num.mono
   exact zR
theorem impl_GetPdu.mono : ∀ a0 k, LeO (impl_GetPdu.f k a0) (impl_GetPdu.f (k + 1) a0) := by
 intro a0 k
 obtain ⟨ih0, ih1⟩ := impl_GetPdu.mono_l k
 unfold impl_GetPdu.f
 have m0_ := @impl_PutPdu.mono
 have m1_ := @impl_bindOf.mono
 have m2_ := @impl_parts_num.mono
 exact zR
theorem impl_GetPdu.calls (k : Nat) (A0 : Option Addr) (c0 : Nat) (l0 : List Int) (r1 : Int) (r2 : Int) (r3 : Int) (r4 : Int) (r5 : List (S116)) (r6 : Bool) (w : World) (hr0 : Kd.C (Kd.int .u8) w A0 l0.length l0) (hc0 : l0.length ≤ c0) (h : impl_GetPdu.f k l0 = some (r1, r2, r3, r4, r5, r6)) :
  Calls Try.prog 22 #[.slice A0 l0.length c0] w fun e w' => ∃ v4_ : Value, e = .returned (.tuple #[.agg #[.int .i64 r1, .int .i64 r2, .int .i64 r3, .int .i64 r4, v4_], .bool r6]) ∧ Kd.S k116 116 w' w.heap.size (fun _ => True) v4_ r5 ∧ Below w.heap.size w w' := by
 have hu26 := Try.underlying26
 have hu127 := Try.underlying127
 have hu116 := Try.underlying116
 have HR0 := zA hr0
 have HC0 := zA hc0
 clear hr0 hc0
 have HB := zA (Below.refl w.heap.size w)
 unfold impl_GetPdu.f at h
 have H := zA h
 clear h
 go_enter Try.func22, Try.ntmps22
 go_upto_region 0 with fail
 go_upto_region 1 with (first | ((with_reducible refine gate_dst (N := 2) rfl ?_); (try (refine gate_guard zq94 ?_; dsimp only)); refine box_event ?hg (N := 2) ?hd (cs := #[.int .i64 0, .int .i64 0, .int .i64 0, .int .i64 0, .slice none 0 0]) (t := 26) ?hr ?_; (case hd => rfl); (case hg => rfl); (case hr => exact zgs); intro gb808 hg w4 hbox hb; have BK808 := zA (hbox); have GW808 := zA ((zq5 : w.heap.size ≤ gb808)); have GE808 := zA ((zq5 : w.heap.size ≤ gb808)); replace HB := zA (below_step zq0 hb); clear hb hbox hg))
 (try simp only [zvs])
 replace H := zB H; obtain ⟨⟨t809, t810, t811, t812⟩, A5, H⟩ := H
 try dsimp only at H
 go_upto_region 2 with (first | (go_at_call 112; (with_reducible refine (impl_GetTlv.calls _ _ l0 0 t809 t810 t811 t812 _ ?side1 ?side2 A5.out).mono ?_); (case side1 => exact zq18); (case side2 => exact HC0.out); rintro e w7 ⟨v813, rfl, ho0, hb⟩; have HO814 := zA (Kd.R_lower ho0 (below_size zq0)); replace BK808 := zA (zbb BK808.out hb); replace HB := zA (below_step zq0 hb); clear hb ho0))
 (try simp only [zvs])
 go_upto_region 2 with fail
 go_cut [28] (fun v28 wc => ∃ (kq : Nat) (x28_7 : Bool), v28 = .bool x28_7 ∧ Aside0 (impl_GetPdu.j0 kq l0 t809 t810 x28_7 = some (r1, r2, r3, r4, r5, r6)) ∧ Aside0 (kq ≤ k) ∧ Aside0 (Kd.R (Kd.int .u8) 5 wc w.heap.size (fun _ => True) v813 t810) ∧ Aside0 (wc.heap[gb808]? = some (.cells #[.int .i64 0, .int .i64 0, .int .i64 0, .int .i64 0, (.slice none 0 0)] 26 (0, 0))) ∧ Aside0 (Below w.heap.size w wc))
 case first =>
  replace H := zE H; rcases H with ⟨rfl, H⟩ | ⟨rfl, H⟩
  ·have H' := H
   clear H
   go_wp2
   go_meet
   case rel => exact ⟨_, ((t811 != (l0.length : Int))), zq15, H', ⟨zq120⟩, ⟨(zrk HO814.out)⟩, ⟨(zbk BK808.out)⟩, ⟨zq0⟩⟩
  have H' := H
  clear H
  go_wp2
  go_meet
  case rel => exact ⟨_, (true), zq15, H', ⟨zq120⟩, ⟨(zrk HO814.out)⟩, ⟨(zbk BK808.out)⟩, ⟨zq0⟩⟩
 case rest =>
  try clear c2
  try clear p2
  try clear c9
  obtain ⟨kq, x28_7, rfl, HA, HJ7, HO_5, BK808, HB⟩ := hcut
  cases kq with
  | zero => exact absurd HA.out (by simp [impl_GetPdu.j0])
  | succ kj7 =>
   have H := HA
   clear HA
   simp only [impl_GetPdu.j0] at H
   replace H := zE H; rcases H with ⟨rfl, H⟩ | ⟨rfl, H⟩
   ·go_upto_region 3 with fail
    obtain ⟨rfl, rfl, rfl, rfl, rfl, rfl⟩ := zt6 H
    have hz12 := zc5 BK808.out
    go_wp2
    refine bodyPost_ret (results_ct rfl _ _ gb808 26 #[.int .i64 0, .int .i64 0, .int .i64 0, .int .i64 0, .slice none 0 0] (0, 0) _ rfl (zbp BK808.out) Try.underlying26 rfl (by kernel_rfl)) rfl ?_
    exact ⟨_, zq1, zq70, zq0⟩
   go_upto_region 4 with fail
   go_upto_region 5 with (first | ((with_reducible refine gate_dst (N := 8) rfl ?_); (try (refine gate_guard zq94 ?_; dsimp only)); refine box_event ?hg (N := 8) ?hd (cs := #[.int .i64 0, .int .i64 0, .int .i64 0, .int .i64 0, .slice none 0 0]) (t := 26) ?hr ?_; (case hd => rfl); (case hg => rfl); (case hr => exact zgs); intro gb815 hg w15 hbox hb; replace HO_5 := zA (Kd.R_below zq11 hb); have BK815 := zA (hbox); have GW815 := zA ((zq106 : w.heap.size ≤ gb815)); have GE815 := zA ((zq106 : w.heap.size ≤ gb815)); replace HB := zA (below_step zq0 hb); have NB808_815 := zA (((znl BK808.out hg) : gb808 ≠ gb815)); have NB815_808 := zA (((zng BK808.out hg) : gb815 ≠ gb808)); replace BK808 := zA (zbb BK808.out hb); clear hb hbox hg; have hn16 := zn NB815_808; have hz17 := zc5 BK815.out))
   (try simp only [zvs])
   obtain ⟨w18, hW_⟩ : ∃ wz_, wz_ = (((((w15.setCell ⟨gb815, 0, none⟩ (.int .i64 t809)).setCell ⟨gb815, 1, none⟩ (.int .i64 0)).setCell ⟨gb815, 2, none⟩ (.int .i64 0)).setCell ⟨gb815, 3, none⟩ (.int .i64 0)).setCell ⟨gb815, 4, none⟩ (.slice none 0 0)) := ⟨_, rfl⟩
   replace HO_5 : Aside0 (Kd.R (Kd.int .u8) 5 w18 w.heap.size (fun _ => True) v813 t810) := ⟨(by subst hW_; exact Kd.R_mono (Kd.R_far (Kd.R_far (Kd.R_far (Kd.R_far (Kd.R_far (Kd.R_types HO_5.out BK815.out zq52) (fun _ hk => hk.2) _) (fun _ hk => hk.2) _) (fun _ hk => hk.2) _) (fun _ hk => hk.2) _) (fun _ hk => hk.2) _) (fun _ hk => trivial))⟩
   replace BK808 : Aside0 (w18.heap[gb808]? = some (.cells #[.int .i64 0, .int .i64 0, .int .i64 0, .int .i64 0, .slice none 0 0] 26 (0, 0))) := ⟨zwf hW_ BK808.out⟩
   replace BK815 : Aside0 (w18.heap[gb815]? = some (.cells #[.int .i64 t809, .int .i64 0, .int .i64 0, .int .i64 0, .slice none 0 0] 26 (0, 0))) := ⟨zwp hW_ BK815.out⟩
   replace HB : Aside0 (Below w.heap.size w w18) := ⟨(zwh hW_ HB.out)⟩
   rw [← hW_]; clear hW_
   obtain ⟨Ao20, co20, eo20⟩ := Kd.R_slice HO_5.out
   subst eo20
   go_upto_region 6 with (first | ((with_reducible refine gate_dst (N := 34) rfl ?_); (try (refine gate_guard zq94 ?_; dsimp only)); refine box_event ?hg (N := 34) ?hd (cs := #[.slice Ao20 t810.length co20, .int .i64 0, .bool false]) (t := 127) ?hr ?_; (case hd => rfl); (case hg => rfl); (case hr => exact zgs); intro gb816 hg w21 hbox hb; have BK816 := zA (hbox); have GW816 := zA ((zq97 : w.heap.size ≤ gb816)); have GE816 := zA ((zq97 : w.heap.size ≤ gb816)); replace HB := zA (below_step zq0 hb); have NB808_816 := zA (((znl BK808.out hg) : gb808 ≠ gb816)); have NB816_808 := zA (((zng BK808.out hg) : gb816 ≠ gb808)); replace BK808 := zA (zbb BK808.out hb); have NB815_816 := zA (((znl BK815.out hg) : gb815 ≠ gb816)); have NB816_815 := zA (((zng BK815.out hg) : gb816 ≠ gb815)); replace BK815 := zA (zbb BK815.out hb); have LT816_0 := zA ((fun k_ h_ => by rw [hg]; exact Kd.R_lt zq11 k_ h_ : ∀ k_, (.slice Ao20 t810.length co20 : Value).ownBlock = some k_ → k_ < gb816)); replace HO_5 := zA (Kd.R_below zq11 hb); clear hb hbox hg))
   (try simp only [zvs])
   replace H := zB H; obtain ⟨⟨t817, t818, t819⟩, A22, H⟩ := H
   try dsimp only at H
   go_upto_region 7 with (first | (go_at_call 113; (with_reducible refine (impl_parts_num.callsB kj7 gb816 Ao20 co20 t810 0 false 2 t817 t818 t819 w _ ?side1 ?side2 ?side3 ?side4 ?side5 ?side6 A22.out).mono ?_); (case side1 => exact zq10); (case side2 => exact zq35); (case side3 => exact (Kd.R_reads' HO_5.out).2.1); (case side4 => exact LT816_0.out); (case side5 => exact zq0); (case side6 => exact GE816.out); rintro e w24 ⟨rfl, hi, hb, hk⟩; replace HO_5 := zA (Kd.R_mono (Kd.R_keep (Kd.R_types (g := gb816) (t := 127) (cells := #[.slice Ao20 t810.length co20, .int .i64 0, .bool false]) zq11 zq10 zq52) hk (fun _ h => h.2)) (fun _ h => h.1)); replace BK808 := zA (zkb hk BK808.out NB808_816.out); replace BK815 := zA (zkb hk BK815.out NB815_816.out); replace HB := zA (hb); replace BK816 := zA (hi); clear hb hk hi; have hn25 := zn NB815_808; have hn26 := zn NB815_816; have hz27 := zc5 BK815.out))
   (try simp only [zvs])
   have n0_ : Aside0 (Kd.R (Kd.int .u8) 5 (w24.setCell ⟨gb815, 1, none⟩ (.int .i64 t817)) w.heap.size (fun _ => True) (.slice Ao20 t810.length co20) t810) := ⟨(by (with_reducible repeat (first | apply Kd.R_alloc | apply Kd.R_drewN | apply Kd.R_drew)); exact Kd.R_mono (Kd.R_far (p := ⟨gb815, 1, none⟩) (Kd.R_types HO_5.out BK815.out zq52) (fun _ hk => hk.2) (.int .i64 t817)) (fun _ hk => trivial))⟩
   have n1_ : Aside0 ((w24.setCell ⟨gb815, 1, none⟩ (.int .i64 t817)).heap[gb808]? = some (.cells #[.int .i64 0, .int .i64 0, .int .i64 0, .int .i64 0, .slice none 0 0] 26 (0, 0))) := ⟨(zbf BK808.out)⟩
   have n2_ : Aside0 ((w24.setCell ⟨gb815, 1, none⟩ (.int .i64 t817)).heap[gb815]? = some (.cells #[.int .i64 t809, .int .i64 t817, .int .i64 0, .int .i64 0, .slice none 0 0] 26 (0, 0))) := ⟨zbp BK815.out⟩
   have n3_ : Aside0 ((w24.setCell ⟨gb815, 1, none⟩ (.int .i64 t817)).heap[gb816]? = some (.cells #[.slice Ao20 t810.length co20, .int .i64 t818, .bool t819] 127 (0, 0))) := ⟨(zbf BK816.out)⟩
   have n4_ : Aside0 (Below w.heap.size w (w24.setCell ⟨gb815, 1, none⟩ (.int .i64 t817))) := ⟨zq0⟩
   (try clear HO_5)
   (try clear BK808)
   (try clear BK815)
   (try clear BK816)
   (try clear HB)
   generalize (w24.setCell ⟨gb815, 1, none⟩ (.int .i64 t817)) = w28 at n0_ n1_ n2_ n3_ n4_ ⊢
   have HO_5 := n0_
   have BK808 := n1_
   have BK815 := n2_
   have BK816 := n3_
   have HB := n4_
   clear n0_ n1_ n2_ n3_ n4_
   replace H := zB H; obtain ⟨⟨t820, t821, t822⟩, A29, H⟩ := H
   try dsimp only at H
   go_upto_region 8 with (first | (go_at_call 113; (with_reducible refine (impl_parts_num.callsB kj7 gb816 Ao20 co20 t810 t818 t819 2 t820 t821 t822 w _ ?side1 ?side2 ?side3 ?side4 ?side5 ?side6 A29.out).mono ?_); (case side1 => exact zq10); (case side2 => exact zq35); (case side3 => exact (Kd.R_reads' HO_5.out).2.1); (case side4 => exact LT816_0.out); (case side5 => exact zq0); (case side6 => exact GE816.out); rintro e w31 ⟨rfl, hi, hb, hk⟩; replace HO_5 := zA (Kd.R_mono (Kd.R_keep (Kd.R_types (g := gb816) (t := 127) (cells := #[.slice Ao20 t810.length co20, .int .i64 t818, .bool t819]) zq11 zq10 zq52) hk (fun _ h => h.2)) (fun _ h => h.1)); replace BK808 := zA (zkb hk BK808.out NB808_816.out); replace BK815 := zA (zkb hk BK815.out NB815_816.out); replace HB := zA (hb); replace BK816 := zA (hi); clear hb hk hi; have hn32 := zn NB815_808; have hn33 := zn NB815_816; have hz34 := zc5 BK815.out))
   (try simp only [zvs])
   have n0_ : Aside0 (Kd.R (Kd.int .u8) 5 (w31.setCell ⟨gb815, 2, none⟩ (.int .i64 t820)) w.heap.size (fun _ => True) (.slice Ao20 t810.length co20) t810) := ⟨(by (with_reducible repeat (first | apply Kd.R_alloc | apply Kd.R_drewN | apply Kd.R_drew)); exact Kd.R_mono (Kd.R_far (p := ⟨gb815, 2, none⟩) (Kd.R_types HO_5.out BK815.out zq52) (fun _ hk => hk.2) (.int .i64 t820)) (fun _ hk => trivial))⟩
   have n1_ : Aside0 ((w31.setCell ⟨gb815, 2, none⟩ (.int .i64 t820)).heap[gb808]? = some (.cells #[.int .i64 0, .int .i64 0, .int .i64 0, .int .i64 0, .slice none 0 0] 26 (0, 0))) := ⟨(zbf BK808.out)⟩
   have n2_ : Aside0 ((w31.setCell ⟨gb815, 2, none⟩ (.int .i64 t820)).heap[gb815]? = some (.cells #[.int .i64 t809, .int .i64 t817, .int .i64 t820, .int .i64 0, .slice none 0 0] 26 (0, 0))) := ⟨zbp BK815.out⟩
   have n3_ : Aside0 ((w31.setCell ⟨gb815, 2, none⟩ (.int .i64 t820)).heap[gb816]? = some (.cells #[.slice Ao20 t810.length co20, .int .i64 t821, .bool t822] 127 (0, 0))) := ⟨(zbf BK816.out)⟩
   have n4_ : Aside0 (Below w.heap.size w (w31.setCell ⟨gb815, 2, none⟩ (.int .i64 t820))) := ⟨zq0⟩
   (try clear HO_5)
   (try clear BK808)
   (try clear BK815)
   (try clear BK816)
   (try clear HB)
   generalize (w31.setCell ⟨gb815, 2, none⟩ (.int .i64 t820)) = w35 at n0_ n1_ n2_ n3_ n4_ ⊢
   have HO_5 := n0_
   have BK808 := n1_
   have BK815 := n2_
   have BK816 := n3_
   have HB := n4_
   clear n0_ n1_ n2_ n3_ n4_
   replace H := zB H; obtain ⟨⟨t823, t824, t825⟩, A36, H⟩ := H
   try dsimp only at H
   go_upto_region 9 with (first | (go_at_call 113; (with_reducible refine (impl_parts_num.callsB kj7 gb816 Ao20 co20 t810 t821 t822 2 t823 t824 t825 w _ ?side1 ?side2 ?side3 ?side4 ?side5 ?side6 A36.out).mono ?_); (case side1 => exact zq10); (case side2 => exact zq35); (case side3 => exact (Kd.R_reads' HO_5.out).2.1); (case side4 => exact LT816_0.out); (case side5 => exact zq0); (case side6 => exact GE816.out); rintro e w38 ⟨rfl, hi, hb, hk⟩; replace HO_5 := zA (Kd.R_mono (Kd.R_keep (Kd.R_types (g := gb816) (t := 127) (cells := #[.slice Ao20 t810.length co20, .int .i64 t821, .bool t822]) zq11 zq10 zq52) hk (fun _ h => h.2)) (fun _ h => h.1)); replace BK808 := zA (zkb hk BK808.out NB808_816.out); replace BK815 := zA (zkb hk BK815.out NB815_816.out); replace HB := zA (hb); replace BK816 := zA (hi); clear hb hk hi; have hn39 := zn NB815_808; have hn40 := zn NB815_816; have hz41 := zc5 BK815.out))
   (try simp only [zvs])
   have n0_ : Aside0 (Kd.R (Kd.int .u8) 5 (w38.setCell ⟨gb815, 3, none⟩ (.int .i64 t823)) w.heap.size (fun _ => True) (.slice Ao20 t810.length co20) t810) := ⟨(by (with_reducible repeat (first | apply Kd.R_alloc | apply Kd.R_drewN | apply Kd.R_drew)); exact Kd.R_mono (Kd.R_far (p := ⟨gb815, 3, none⟩) (Kd.R_types HO_5.out BK815.out zq52) (fun _ hk => hk.2) (.int .i64 t823)) (fun _ hk => trivial))⟩
   have n1_ : Aside0 ((w38.setCell ⟨gb815, 3, none⟩ (.int .i64 t823)).heap[gb808]? = some (.cells #[.int .i64 0, .int .i64 0, .int .i64 0, .int .i64 0, .slice none 0 0] 26 (0, 0))) := ⟨(zbf BK808.out)⟩
   have n2_ : Aside0 ((w38.setCell ⟨gb815, 3, none⟩ (.int .i64 t823)).heap[gb815]? = some (.cells #[.int .i64 t809, .int .i64 t817, .int .i64 t820, .int .i64 t823, .slice none 0 0] 26 (0, 0))) := ⟨zbp BK815.out⟩
   have n3_ : Aside0 ((w38.setCell ⟨gb815, 3, none⟩ (.int .i64 t823)).heap[gb816]? = some (.cells #[.slice Ao20 t810.length co20, .int .i64 t824, .bool t825] 127 (0, 0))) := ⟨(zbf BK816.out)⟩
   have n4_ : Aside0 (Below w.heap.size w (w38.setCell ⟨gb815, 3, none⟩ (.int .i64 t823))) := ⟨zq0⟩
   (try clear HO_5)
   (try clear BK808)
   (try clear BK815)
   (try clear BK816)
   (try clear HB)
   generalize (w38.setCell ⟨gb815, 3, none⟩ (.int .i64 t823)) = w42 at n0_ n1_ n2_ n3_ n4_ ⊢
   have HO_5 := n0_
   have BK808 := n1_
   have BK815 := n2_
   have BK816 := n3_
   have HB := n4_
   clear n0_ n1_ n2_ n3_ n4_
   replace H := zB H; obtain ⟨⟨t826, t829, t830⟩, A43, H⟩ := H
   try dsimp only at H
   go_upto_region 10 with (first | (go_at_call 114; (with_reducible refine (impl_parts_part.callsB gb816 Ao20 co20 t810 t824 t825 48 t826 t829 t830 w _ ?side1 ?side2 ?side3 ?side4 ?side5 ?side6 A43.out).mono ?_); (case side1 => exact zq10); (case side2 => exact zq35); (case side3 => exact (Kd.R_reads' HO_5.out).2.1); (case side4 => exact LT816_0.out); (case side5 => exact zq0); (case side6 => exact GE816.out); rintro e w45 ⟨v827, rfl, ho0, hi, hb, hk⟩; replace BK808 := zA (zkb hk BK808.out NB808_816.out); replace BK815 := zA (zkb hk BK815.out NB815_816.out); have HO828 := zA (Kd.R_lower (Kd.R_new' ho0 (Kd.R_lt zq11)) (below_size zq0)); replace HO_5 := zA (Kd.R_mono (Kd.R_told (Kd.R_oldK (Kd.R_types (g := gb816) (t := 127) (cells := #[.slice Ao20 t810.length co20, .int .i64 t824, .bool t825]) zq11 zq10 zq52) hk) (Kd.R_base ho0)) (fun _ h_ => h_.1)); replace HB := zA (hb); replace BK816 := zA (hi); clear hb hk hi ho0; obtain ⟨Ao46, co46, eo46⟩ := Kd.R_slice HO828.out; subst eo46) | ((with_reducible refine gate_dst (N := 47) rfl ?_); (try (refine gate_guard zq94 ?_; dsimp only)); refine box_event ?hg (N := 47) ?hd (cs := #[.slice Ao46 t826.length co46, .int .i64 0, .bool false]) (t := 127) ?hr ?_; (case hd => rfl); (case hg => rfl); (case hr => exact zgs); intro gb831 hg w47 hbox hb; replace HO_5 := zA (Kd.R_below zq11 hb); have BK831 := zA (hbox); have GW831 := zA ((zq87 : w.heap.size ≤ gb831)); have GE831 := zA ((zq87 : w.heap.size ≤ gb831)); replace HB := zA (below_step zq0 hb); have NB808_831 := zA (((znl BK808.out hg) : gb808 ≠ gb831)); have NB831_808 := zA (((zng BK808.out hg) : gb831 ≠ gb808)); replace BK808 := zA (zbb BK808.out hb); have NB815_831 := zA (((znl BK815.out hg) : gb815 ≠ gb831)); have NB831_815 := zA (((zng BK815.out hg) : gb831 ≠ gb815)); replace BK815 := zA (zbb BK815.out hb); have NB816_831 := zA (((znl BK816.out hg) : gb816 ≠ gb831)); have NB831_816 := zA (((zng BK816.out hg) : gb831 ≠ gb816)); replace BK816 := zA (zbb BK816.out hb); have LT831_0 := zA ((fun k_ h_ => by rw [hg]; exact Kd.R_lt (zrk HO828.out) k_ h_ : ∀ k_, (.slice Ao46 t826.length co46 : Value).ownBlock = some k_ → k_ < gb831)); replace HO828 := zA (Kd.R_below (zrk HO828.out) hb); clear hb hbox hg))
   (try simp only [zvs])
   replace H := zB H; obtain ⟨⟨t832, t833, t834⟩, A48, H⟩ := H
   try dsimp only at H
   replace H := zE H; rcases H with ⟨rfl, H⟩ | ⟨rfl, H⟩
   ·have H' := H
    clear H
    go_wp2_with (first | (go_at_call 115; (with_reducible refine (impl_parts_done.callsB gb816 Ao20 co20 t810 t829 t830 true t833 t834 w _ ?side1 ?side2 ?side3 ?side4 ?side5 ?side6 A48.out).mono ?_); (case side1 => exact zq10); (case side2 => exact zq35); (case side3 => exact (Kd.R_reads' HO_5.out).2.1); (case side4 => exact LT816_0.out); (case side5 => exact zq0); (case side6 => exact GE816.out); rintro e w50 ⟨rfl, hi, hb, hk⟩; replace HO_5 := zA (Kd.R_mono (Kd.R_keep (Kd.R_types (g := gb816) (t := 127) (cells := #[.slice Ao20 t810.length co20, .int .i64 t829, .bool t830]) zq11 zq10 zq52) hk (fun _ h => h.2)) (fun _ h => h.1)); replace BK808 := zA (zkb hk BK808.out NB808_816.out); replace BK815 := zA (zkb hk BK815.out NB815_816.out); replace HO828 := zA (Kd.R_mono (Kd.R_keep (Kd.R_types (g := gb816) (t := 127) (cells := #[.slice Ao20 t810.length co20, .int .i64 t829, .bool t830]) (zrk HO828.out) zq10 zq52) hk (fun _ h => h.2)) (fun _ h => h.1)); replace BK831 := zA (zkb hk BK831.out NB831_816.out); replace HB := zA (hb); replace BK816 := zA (hi); clear hb hk hi))
    go_loopg [] kj7 (fun kq w' => ∃ (x809000_2 : Int) (x809001_2 : Int) (x809002_2 : Int) (x809003_2 : Int) (x816004_2 : List (S116)) (x832001_2 : Int) (x832002_2 : Bool) (u816004 : Value), Aside0 (impl_GetPdu.l0 kq l0 t809 t817 t820 t823 x816004_2 t826 x832001_2 x832002_2 = some (r1, r2, r3, r4, r5, r6)) ∧ Aside0 (kq ≤ kj7) ∧ Aside0 (Kd.S k116 116 w' w.heap.size (fun _ => True) u816004 x816004_2) ∧ Aside0 (Kd.R (Kd.int .u8) 5 w' w.heap.size (fun k_ => some k_ ≠ ((.slice Ao46 t826.length co46) : Value).ownBlock) (.slice Ao20 t810.length co20) t810) ∧ Aside0 (Kd.R (Kd.int .u8) 5 w' w.heap.size (fun k_ => some k_ ≠ ((.slice Ao20 t810.length co20) : Value).ownBlock) (.slice Ao46 t826.length co46) t826) ∧ Aside0 (w'.heap[gb808]? = some (.cells #[.int .i64 x809000_2, .int .i64 x809001_2, .int .i64 x809002_2, .int .i64 x809003_2, (.slice none 0 0)] 26 (0, 0))) ∧ Aside0 (w'.heap[gb815]? = some (.cells #[.int .i64 t809, .int .i64 t817, .int .i64 t820, .int .i64 t823, u816004] 26 (0, 0))) ∧ Aside0 (w'.heap[gb816]? = some (.cells #[(.slice Ao20 t810.length co20), .int .i64 t833, .bool t834] 127 (0, 0))) ∧ Aside0 (w'.heap[gb831]? = some (.cells #[(.slice Ao46 t826.length co46), .int .i64 x832001_2, .bool x832002_2] 127 (0, 0))) ∧ Aside0 (Below w.heap.size w w'))
    case atStart => exact ⟨(0), (0), (0), (0), (([] : List (S116))), (0), (false), (.slice none 0 0), H', ⟨Nat.le_refl _⟩, ⟨zq70⟩, ⟨(by (with_reducible repeat (first | apply Kd.R_alloc | apply Kd.R_drewN | apply Kd.R_drew)); exact Kd.R_mono HO_5.out (fun _ hk => hk.2))⟩, ⟨(by (with_reducible repeat (first | apply Kd.R_alloc | apply Kd.R_drewN | apply Kd.R_drew)); exact Kd.R_mono HO828.out (fun _ hk => hk.2))⟩, ⟨(zbk BK808.out)⟩, ⟨(zbk BK815.out)⟩, ⟨zq10⟩, ⟨(zbf BK831.out)⟩, ⟨zq0⟩⟩
    case round =>
     clear H'
     try clear c1
     try clear c2
     try clear p2
     try clear c3
     try clear c4
     try clear c9
     try clear c10
     try clear c16
     try clear c22
     try clear c25
     try clear c26
     try clear c32
     try clear c33
     try clear c39
     try clear c40
     try clear c49
     try clear hz12
     try clear hz17
     try clear hz27
     try clear hz34
     try clear hz41
     try clear p2
     obtain ⟨x809000_2, x809001_2, x809002_2, x809003_2, x816004_2, x832001_2, x832002_2, u816004, HA, HK2, HO_816004, HO_817000, HO_832000, BK808, BK815, BK816, BK831, HB⟩ := hrel
     cases gk with
     | zero => exact absurd HA.out (by simp [impl_GetPdu.l0])
     | succ k2 =>
      have H := HA
      clear HA
      simp only [impl_GetPdu.l0] at H
      go_upto_region 12 with fail
      replace H := zPd H; rcases H with ⟨c52b0, H⟩ | ⟨c52b0, H⟩
      ·have hn54 := zn NB831_808
       have hn55 := zn NB831_815
       have hn56 := zn NB831_816
       have hz57 := zc3 BK831.out
       iterate 2 (go_upto_region 13 with fail; try go_quiet (fail))
       replace H := zB H; obtain ⟨⟨t838, t841, t842⟩, A58, H⟩ := H
       try dsimp only at H
       replace H := zB H; obtain ⟨⟨t843, t846, t847, t848, t849, t852⟩, A59, H⟩ := H
       try dsimp only at H
       go_upto_region 14 with (first | (go_at_call 114; (with_reducible refine (impl_parts_part.callsB gb831 Ao46 co46 t826 x832001_2 x832002_2 48 t838 t841 t842 w _ ?side1 ?side2 ?side3 ?side4 ?side5 ?side6 A58.out).mono ?_); (case side1 => exact (zbf BK831.out)); (case side2 => exact zq196); (case side3 => exact (Kd.R_reads' HO_832000.out).2.1); (case side4 => exact LT831_0.out); (case side5 => exact zq0); (case side6 => exact GE831.out); rintro e w61 ⟨v839, rfl, ho0, hi, hb, hk⟩; replace HO_816004 := zA (Kd.S_mono (Kd.S_keep (Kd.S_types (g := gb831) (t := 127) (cells := #[.slice Ao46 t826.length co46, .int .i64 x832001_2, .bool x832002_2]) zq54 (zbf BK831.out) zq52) hk (fun _ h => h.2)) (fun _ h => h.1)); replace BK808 := zA (zkb hk BK808.out NB808_831.out); replace BK815 := zA (zkb hk BK815.out NB815_831.out); replace BK816 := zA (zkb hk BK816.out NB816_831.out); have HO840 := zA (Kd.R_lower (Kd.R_new' (Kd.R_new' ho0 (Kd.R_lt zq55)) (Kd.R_lt zq56)) (below_size zq0)); replace HO_817000 := zA (Kd.R_mono (Kd.R_told (Kd.R_oldK (Kd.R_types (g := gb831) (t := 127) (cells := #[.slice Ao46 t826.length co46, .int .i64 x832001_2, .bool x832002_2]) zq55 (zbf BK831.out) zq52) hk) (Kd.R_base ho0)) (fun _ h_ => h_.1)); replace HO_832000 := zA (Kd.R_mono (Kd.R_told (Kd.R_oldK (Kd.R_types (g := gb831) (t := 127) (cells := #[.slice Ao46 t826.length co46, .int .i64 x832001_2, .bool x832002_2]) zq56 (zbf BK831.out) zq52) hk) (Kd.R_base ho0)) (fun _ h_ => h_.1)); replace HB := zA (hb); replace BK831 := zA (hi); clear hb hk hi ho0; obtain ⟨Ao62, co62, eo62⟩ := Kd.R_slice HO840.out; subst eo62) | (go_at_call 116; (with_reducible refine (impl_bindOf.calls k2 _ _ t838 t843 t846 t847 t848 t849 t852 _ ?side1 ?side2 A59.out).mono ?_); (case side1 => exact zq203); (case side2 => exact (Kd.R_reads' HO840.out).2.1); rintro e w63 ⟨v844, v850, rfl, ho0, ho1, hb⟩; replace HO_816004 := zA (Kd.S_mono (Kd.S_told (Kd.S_told (Kd.S_old zq54 hb) (Kd.R_base ho0)) (Kd.R_base ho1)) (fun _ h_ => h_.1)); replace HO_817000 := zA (Kd.R_below zq55 hb); replace HO_832000 := zA (Kd.R_below zq56 hb); replace HO840 := zA (Kd.R_below (zrk HO840.out) hb); have HO845 := zA (Kd.R_lower ho0 (below_size zq0)); have HO851 := zA (Kd.R_lower ho1 (below_size zq0)); replace BK808 := zA (zbb BK808.out hb); replace BK815 := zA (zbb BK815.out hb); replace BK816 := zA (zbb BK816.out hb); replace BK831 := zA (zbb BK831.out hb); replace HB := zA (below_step zq0 hb); clear hb ho0 ho1) | ((with_reducible refine gate_dst (N := 11) rfl ?_); (try (refine gate_guard zq94 ?_; dsimp only)); refine box_event ?hg (N := 11) ?hd (cs := #[.slice none 0 0, .int .i64 0, .int .i64 0, .string (⟨#[]⟩ : ByteArray), .slice none 0 0]) (t := 116) ?hr ?_; (case hd => rfl); (case hg => rfl); (case hr => exact zgs); intro gb853 hg w64 hbox hb; replace HO_816004 := zA (Kd.S_below (Kd.S_elderB zq54 gb853 (Nat.le_of_eq hg.symm)) hb); replace HO_817000 := zA (Kd.R_below zq55 hb); replace HO_832000 := zA (Kd.R_below zq56 hb); replace HO840 := zA (Kd.R_below (zrk HO840.out) hb); replace HO845 := zA (Kd.R_below (zrk HO845.out) hb); replace HO851 := zA (Kd.R_below (zrk HO851.out) hb); have BK853 := zA (hbox); have GW853 := zA ((zq79 : w.heap.size ≤ gb853)); have GE853 := zA ((zq79 : w.heap.size ≤ gb853)); replace HB := zA (below_step zq0 hb); have NB808_853 := zA (((znl BK808.out hg) : gb808 ≠ gb853)); have NB853_808 := zA (((zng BK808.out hg) : gb853 ≠ gb808)); replace BK808 := zA (zbb BK808.out hb); have NB815_853 := zA (((znl BK815.out hg) : gb815 ≠ gb853)); have NB853_815 := zA (((zng BK815.out hg) : gb853 ≠ gb815)); replace BK815 := zA (zbb BK815.out hb); have NB816_853 := zA (((znl BK816.out hg) : gb816 ≠ gb853)); have NB853_816 := zA (((zng BK816.out hg) : gb853 ≠ gb816)); replace BK816 := zA (zbb BK816.out hb); have NB831_853 := zA (((znl BK831.out hg) : gb831 ≠ gb853)); have NB853_831 := zA (((zng BK831.out hg) : gb853 ≠ gb831)); replace BK831 := zA (zbb BK831.out hb); clear hb hbox hg; obtain ⟨Ao65, co65, eo65⟩ := Kd.R_slice HO845.out; subst eo65; have hn66 := zn NB853_808; have hn67 := zn NB853_815; have hn68 := zn NB853_816; have hn69 := zn NB853_831; have hz70 := zc5 BK853.out; obtain ⟨Ao71, co71, eo71⟩ := Kd.R_slice HO851.out; subst eo71))
       (try simp only [zvs])
       obtain ⟨w72, hW_⟩ : ∃ wz_, wz_ = (((((w64.setCell ⟨gb853, 0, none⟩ (.slice Ao65 t843.length co65)).setCell ⟨gb853, 1, none⟩ (.int .i64 t846)).setCell ⟨gb853, 2, none⟩ (.int .i64 t847)).setCell ⟨gb853, 3, none⟩ (.string t848)).setCell ⟨gb853, 4, none⟩ (.slice Ao71 t849.length co71)) := ⟨_, rfl⟩
       replace HO_816004 : Aside0 (Kd.S k116 116 w72 w.heap.size (fun k_ => some k_ ≠ (.slice Ao65 t843.length co65 : Value).ownBlock ∧ some k_ ≠ (.slice Ao71 t849.length co71 : Value).ownBlock ∧ k_ ≠ gb853) u816004 x816004_2) := ⟨(by subst hW_; exact Kd.S_mono (Kd.S_far (Kd.S_far (Kd.S_far (Kd.S_far (Kd.S_far (Kd.S_mono HO_816004.out (fun k_ hk => (⟨hk, hk.2⟩ : _ ∧ k_ ≠ gb853))) (fun _ hk => hk.2) _) (fun _ hk => hk.2) _) (fun _ hk => hk.2) _) (fun _ hk => hk.2) _) (fun _ hk => hk.2) _) (fun _ hk => ⟨hk.1.1.1.2, ⟨hk.1.1.2, hk.1.2⟩⟩))⟩
       replace HO_817000 : Aside0 (Kd.R (Kd.int .u8) 5 w72 w.heap.size (fun k_ => some k_ ≠ (.slice Ao46 t826.length co46 : Value).ownBlock ∧ some k_ ≠ (.slice Ao62 t838.length co62 : Value).ownBlock) (.slice Ao20 t810.length co20) t810) := ⟨(by subst hW_; exact Kd.R_mono (Kd.R_far (Kd.R_far (Kd.R_far (Kd.R_far (Kd.R_far (Kd.R_types HO_817000.out BK853.out zq52) (fun _ hk => hk.2) _) (fun _ hk => hk.2) _) (fun _ hk => hk.2) _) (fun _ hk => hk.2) _) (fun _ hk => hk.2) _) (fun _ hk => ⟨hk.1.1, hk.1.2⟩))⟩
       replace HO_832000 : Aside0 (Kd.R (Kd.int .u8) 5 w72 w.heap.size (fun k_ => some k_ ≠ (.slice Ao20 t810.length co20 : Value).ownBlock ∧ some k_ ≠ (.slice Ao62 t838.length co62 : Value).ownBlock) (.slice Ao46 t826.length co46) t826) := ⟨(by subst hW_; exact Kd.R_mono (Kd.R_far (Kd.R_far (Kd.R_far (Kd.R_far (Kd.R_far (Kd.R_types HO_832000.out BK853.out zq52) (fun _ hk => hk.2) _) (fun _ hk => hk.2) _) (fun _ hk => hk.2) _) (fun _ hk => hk.2) _) (fun _ hk => hk.2) _) (fun _ hk => ⟨hk.1.1, hk.1.2⟩))⟩
       replace HO840 : Aside0 (Kd.R (Kd.int .u8) 5 w72 w.heap.size (fun k_ => some k_ ≠ (.slice Ao20 t810.length co20 : Value).ownBlock ∧ some k_ ≠ (.slice Ao46 t826.length co46 : Value).ownBlock) (.slice Ao62 t838.length co62) t838) := ⟨(by subst hW_; exact Kd.R_mono (Kd.R_far (Kd.R_far (Kd.R_far (Kd.R_far (Kd.R_far (Kd.R_types HO840.out BK853.out zq52) (fun _ hk => hk.2) _) (fun _ hk => hk.2) _) (fun _ hk => hk.2) _) (fun _ hk => hk.2) _) (fun _ hk => hk.2) _) (fun _ hk => ⟨hk.1.1.2, hk.1.2⟩))⟩
       replace HO845 : Aside0 (Kd.R (Kd.int .i64) 3 w72 w.heap.size (fun k_ => some k_ ≠ (.slice Ao71 t849.length co71 : Value).ownBlock) (.slice Ao65 t843.length co65) t843) := ⟨(by subst hW_; exact Kd.R_mono (Kd.R_far (Kd.R_far (Kd.R_far (Kd.R_far (Kd.R_far (Kd.R_types HO845.out BK853.out zq52) (fun _ hk => hk.2) _) (fun _ hk => hk.2) _) (fun _ hk => hk.2) _) (fun _ hk => hk.2) _) (fun _ hk => hk.2) _) (fun _ hk => hk.1))⟩
       replace HO851 : Aside0 (Kd.R (Kd.int .i64) 3 w72 w.heap.size (fun k_ => some k_ ≠ (.slice Ao65 t843.length co65 : Value).ownBlock) (.slice Ao71 t849.length co71) t849) := ⟨(by subst hW_; exact Kd.R_mono (Kd.R_far (Kd.R_far (Kd.R_far (Kd.R_far (Kd.R_far (Kd.R_types HO851.out BK853.out zq52) (fun _ hk => hk.2) _) (fun _ hk => hk.2) _) (fun _ hk => hk.2) _) (fun _ hk => hk.2) _) (fun _ hk => hk.2) _) (fun _ hk => hk.1))⟩
       replace BK808 : Aside0 (w72.heap[gb808]? = some (.cells #[.int .i64 x809000_2, .int .i64 x809001_2, .int .i64 x809002_2, .int .i64 x809003_2, .slice none 0 0] 26 (0, 0))) := ⟨zwf hW_ BK808.out⟩
       replace BK815 : Aside0 (w72.heap[gb815]? = some (.cells #[.int .i64 t809, .int .i64 t817, .int .i64 t820, .int .i64 t823, u816004] 26 (0, 0))) := ⟨zwf hW_ BK815.out⟩
       replace BK816 : Aside0 (w72.heap[gb816]? = some (.cells #[.slice Ao20 t810.length co20, .int .i64 t833, .bool t834] 127 (0, 0))) := ⟨zwf hW_ BK816.out⟩
       replace BK831 : Aside0 (w72.heap[gb831]? = some (.cells #[.slice Ao46 t826.length co46, .int .i64 t841, .bool t842] 127 (0, 0))) := ⟨zwf hW_ BK831.out⟩
       replace BK853 : Aside0 (w72.heap[gb853]? = some (.cells #[.slice Ao65 t843.length co65, .int .i64 t846, .int .i64 t847, .string t848, .slice Ao71 t849.length co71] 116 (0, 0))) := ⟨zwp hW_ BK853.out⟩
       replace HB : Aside0 (Below w.heap.size w w72) := ⟨(zwh hW_ HB.out)⟩
       rw [← hW_]; clear hW_
       (try (rw [drewN_self w72]; generalize hq_ : World.drewN w72 _ = w72; replace HO_816004 := zA (Kd.S_at hq_ HO_816004.out); replace HO_817000 := zA (Kd.R_at hq_ HO_817000.out); replace HO_832000 := zA (Kd.R_at hq_ HO_832000.out); replace HO840 := zA (Kd.R_at hq_ HO840.out); replace HO845 := zA (Kd.R_at hq_ HO845.out); replace HO851 := zA (Kd.R_at hq_ HO851.out); replace BK808 := zA (blk_at hq_ BK808.out); replace BK815 := zA (blk_at hq_ BK815.out); replace BK816 := zA (blk_at hq_ BK816.out); replace BK831 := zA (blk_at hq_ BK831.out); replace BK853 := zA (blk_at hq_ BK853.out); replace HB := zA (below_at hq_ HB.out); clear hq_))
       replace H := zE H; rcases H with ⟨rfl, H⟩ | ⟨rfl, H⟩
       ·by_cases c74 : (x816004_2.length : Int) ≥ 10
        ·rw [if_pos c74] at H
         have c74b0 : decide (10 ≤ (x816004_2.length : Int)) = true := decide_eq_true c74
         have c74b1 : decide (10 ≤ x816004_2.length) = true := decide_eq_true zq183
         clear c74
         have hn76 := zn NB815_808
         have hn77 := zn NB815_816
         have hn78 := zn NB815_831
         have hn79 := zn NB815_853
         have hz80 := zc5 BK815.out
         obtain ⟨Ao81, co81, eo81⟩ := Kd.S_slice HO_816004.out
         subst eo81
         go_upto_region 15 with fail
         obtain ⟨rfl, rfl, rfl, rfl, rfl, rfl⟩ := zt6 H
         have hn82 := zn NB808_815
         have hn83 := zn NB808_816
         have hn84 := zn NB808_831
         have hn85 := zn NB808_853
         have hz86 := zc5 BK808.out
         go_wp2
         refine bodyPost_ret (results_ct rfl _ _ gb808 26 #[.int .i64 0, .int .i64 0, .int .i64 0, .int .i64 0, .slice none 0 0] (0, 0) _ rfl (zbp BK808.out) Try.underlying26 rfl (by kernel_rfl)) rfl ?_
         exact ⟨_, zq1, zq70, zq0⟩
        ·rw [if_neg c74] at H
         have c74b0 : decide (10 ≤ (x816004_2.length : Int)) = false := decide_eq_false c74
         have c74b1 : decide (10 ≤ x816004_2.length) = false := decide_eq_false zq183
         clear c74
         have hn88 := zn NB815_808
         have hn89 := zn NB815_816
         have hn90 := zn NB815_831
         have hn91 := zn NB815_853
         have hz92 := zc5 BK815.out
         obtain ⟨Ao93, co93, eo93⟩ := Kd.S_slice HO_816004.out
         subst eo93
         go_upto_region 16 with fail
         replace H := zN H; obtain ⟨c94, H⟩ := H
         have LMc94 := zA c94
         clear c94
         obtain ⟨y854, hy854⟩ : ∃ y_ : List (S116), y_ = (x816004_2 ++ [(⟨t843, (⟨t846, t847, t848, t849⟩ : S76)⟩ : S116)]) := ⟨_, rfl⟩
         rw [← hy854] at H
         have Ny854 := zA hy854
         clear hy854
         have H' := H; clear H
         have hn95 := zn NB815_808
         have hn96 := zn NB815_816
         have hn97 := zn NB815_831
         have hn98 := zn NB815_853
         have hz99 := zc5 BK815.out
         have hn100 := zn NB853_808
         have hn101 := zn NB853_816
         have hn102 := zn NB853_831
         have hz103 := zc5 BK853.out
         go_wp2_with (first | ((with_reducible refine gate_builtin (b := .append) (xs := #[.tmp 78, .tmp 80]) rfl ?_); (try (refine gate_guard zq94 ?_; dsimp only)); at_builtin; refine Kd.S_append k116 (w0 := w) w.heap.size rfl (.tmp 78) (.tmp 80) 24 116 (.agg #[(.slice none 0 0), (.int .i64 0), (.int .i64 0), (.string ⟨#[]⟩), (.slice none 0 0)]) 80 rfl Try.underlying24 info116 rfl zq52 zq183 (.slice Ao93 x816004_2.length co93) x816004_2 (⟨t843, (⟨t846, t847, t848, t849⟩ : S76)⟩ : S116) [.slice Ao65 t843.length co65, .int .i64 t846, .int .i64 t847, .string t848, .slice Ao71 t849.length co71] (fun k_ => k_ ≠ gb853) (fun k_ => some k_ = (.slice Ao65 t843.length co65 : Value).ownBlock ∨ some k_ = (.slice Ao71 t849.length co71 : Value).ownBlock) rfl rfl ?aP (fun k_ hk_ => hk_.elim (fun h_ => ((Kd.R_mono (ok' := fun k_ => ((fun k_ => k_ ≠ gb853)) k_ ∧ some k_ ≠ (.slice Ao93 x816004_2.length co93 : Value).ownBlock) (Kd.R_types (Kd.R_apart' (HO845.out) (Kd.S_typed HO_816004.out) zq52) BK853.out zq52) (fun k_ hk => ⟨hk.2, hk.1.2⟩))).1 k_ h_.symm) (fun h_ => ((Kd.R_mono (ok' := fun k_ => ((fun k_ => k_ ≠ gb853)) k_ ∧ some k_ ≠ (.slice Ao93 x816004_2.length co93 : Value).ownBlock) (Kd.R_types (Kd.R_apart' (HO851.out) (Kd.S_typed HO_816004.out) zq52) BK853.out zq52) (fun k_ hk => ⟨hk.2, hk.1.2⟩))).1 k_ h_.symm)) ?aF ?aO ?aB ?aS ?aL ?_; (case aP => exact k116_mkM _ _ _ (⟨t843, (⟨t846, t847, t848, t849⟩ : S76)⟩ : S116) (Kd.R_mono (Kd.R_tight rfl (Kd.R_mono (ok' := fun k_ => ((fun k_ => k_ ≠ gb853)) k_ ∧ some k_ ≠ (.slice Ao93 x816004_2.length co93 : Value).ownBlock) (Kd.R_types (Kd.R_apart' (HO845.out) (Kd.S_typed HO_816004.out) zq52) BK853.out zq52) (fun k_ hk => ⟨hk.2, hk.1.2⟩))) (fun _ h_ => Or.inl h_)) (Kd.R_mono (Kd.R_tight rfl (Kd.R_mono (ok' := fun k_ => ((fun k_ => k_ ≠ gb853)) k_ ∧ some k_ ≠ (.slice Ao93 x816004_2.length co93 : Value).ownBlock) (Kd.R_types (Kd.R_apart' (HO851.out) (Kd.S_typed HO_816004.out) zq52) BK853.out zq52) (fun k_ hk => ⟨hk.2, hk.1.2⟩))) (fun _ h_ => Or.inr (h_)))); (case aB => exact zq0); (case aF => exact (fun k_ hk => Kd.freshB (g := gb853) (o := .cells #[.slice Ao65 t843.length co65, .int .i64 t846, .int .i64 t847, .string t848, .slice Ao71 t849.length co71] 116 (0, 0)) (zbk BK853.out) k_ hk)); (case aO => exact zq188); (case aS => exact (below_size zq0)); (case aL => have := LMc94.out; omega); intro v855 w104 ho hb hg hat; rw [← Ny854.out] at ho; replace HO_817000 := zA (Kd.R_over' zq55 (Kd.S_typed zq54) zq52 hg); replace HO_832000 := zA (Kd.R_over' zq56 (Kd.S_typed zq54) zq52 hg); replace BK808 := zA (blk_grown (g := gb808) (o := .cells #[.int .i64 x809000_2, .int .i64 x809001_2, .int .i64 x809002_2, .int .i64 x809003_2, .slice none 0 0] 26 (0, 0)) (zbk BK808.out) hg (Kd.S_ne HO_816004.out BK808.out zq52)); replace BK815 := zA (blk_grown (g := gb815) (o := .cells #[.int .i64 t809, .int .i64 t817, .int .i64 t820, .int .i64 t823, .slice Ao93 x816004_2.length co93] 26 (0, 0)) (zbk BK815.out) hg (Kd.S_ne HO_816004.out BK815.out zq52)); replace BK816 := zA (blk_grown (g := gb816) (o := .cells #[.slice Ao20 t810.length co20, .int .i64 t833, .bool t834] 127 (0, 0)) zq10 hg (Kd.S_ne HO_816004.out BK816.out zq52)); replace BK831 := zA (blk_grown (g := gb831) (o := .cells #[.slice Ao46 t826.length co46, .int .i64 t841, .bool t842] 127 (0, 0)) (zbf BK831.out) hg (Kd.S_ne HO_816004.out BK831.out zq52)); replace HO840 := zA (Kd.R_over' (zrk HO840.out) (Kd.S_typed zq54) zq52 hg); replace BK853 := zA (blk_grown (g := gb853) (o := .cells #[.slice Ao65 t843.length co65, .int .i64 t846, .int .i64 t847, .string t848, .slice Ao71 t849.length co71] 116 (0, 0)) (zbk BK853.out) hg (Kd.S_away HO_816004.out (fun _ hk => hk.2.2))); replace HB := zA (hb); have HO856 := zA (ho); clear HO_816004 HO845 HO851; clear ho hb hg hat; obtain ⟨Ao105, co105, eo105⟩ := Kd.S_slice HO856.out; subst eo105; have hz106 := zc5 BK815.out))
         go_roundg k2
         case measure => have := HJ7.out; have := HK2.out; omega
         case rel => exact ⟨(x809000_2), (x809001_2), (x809002_2), (x809003_2), (y854), (t841), (t842), (.slice Ao105 y854.length co105), H', ⟨(by have := HJ7.out; have := HK2.out; omega)⟩, ⟨(by (with_reducible repeat (first | apply Kd.S_alloc | apply Kd.S_drewN | apply Kd.S_drew)); exact Kd.S_mono (Kd.S_far (p := ⟨gb815, 4, none⟩) (Kd.S_types HO856.out BK815.out zq52) (fun _ hk => hk.2) (.slice Ao105 y854.length co105)) (fun _ hk => trivial))⟩, ⟨(by (with_reducible repeat (first | apply Kd.R_alloc | apply Kd.R_drewN | apply Kd.R_drew)); exact Kd.R_mono (Kd.R_far (p := ⟨gb815, 4, none⟩) (Kd.R_types HO_817000.out BK815.out zq52) (fun _ hk => hk.2) (.slice Ao105 y854.length co105)) (fun _ hk => hk.1.1))⟩, ⟨(by (with_reducible repeat (first | apply Kd.R_alloc | apply Kd.R_drewN | apply Kd.R_drew)); exact Kd.R_mono (Kd.R_far (p := ⟨gb815, 4, none⟩) (Kd.R_types HO_832000.out BK815.out zq52) (fun _ hk => hk.2) (.slice Ao105 y854.length co105)) (fun _ hk => hk.1.1))⟩, ⟨(zbf BK808.out)⟩, ⟨zbp BK815.out⟩, ⟨(zbf BK816.out)⟩, ⟨zbf BK831.out⟩, ⟨zq0⟩⟩
       go_upto_region 15 with fail
       obtain ⟨rfl, rfl, rfl, rfl, rfl, rfl⟩ := zt6 H
       have hn108 := zn NB808_815
       have hn109 := zn NB808_816
       have hn110 := zn NB808_831
       have hn111 := zn NB808_853
       have hz112 := zc5 BK808.out
       go_wp2
       refine bodyPost_ret (results_ct rfl _ _ gb808 26 #[.int .i64 0, .int .i64 0, .int .i64 0, .int .i64 0, .slice none 0 0] (0, 0) _ rfl (zbp BK808.out) Try.underlying26 rfl (by kernel_rfl)) rfl ?_
       exact ⟨_, zq1, zq70, zq0⟩
      have hn114 := zn NB831_808
      have hn115 := zn NB831_815
      have hn116 := zn NB831_816
      have hz117 := zc3 BK831.out
      iterate 2 (go_upto_region 17 with fail; try go_quiet (fail))
      replace H := zB H; obtain ⟨t835, A118, H⟩ := H
      try dsimp only at H
      have hn120 := zn NB815_808
      have hn121 := zn NB815_816
      have hn122 := zn NB815_831
      have hz123 := zc5 BK815.out
      obtain ⟨Ao124, co124, eo124⟩ := Kd.S_slice HO_816004.out
      subst eo124
      go_upto_region 18 with (first | (go_at_call 20; (with_reducible refine (impl_PutPdu.calls k2 t809 t817 t820 t823 _ _ x816004_2 t835 _ ?side1 ?side2 A118.out).mono ?_); (case side1 => exact zq197); (case side2 => exact (Kd.S_reads' HO_816004.out).2.1); rintro e w125 ⟨v836, rfl, ho0, hb⟩; replace HO_816004 := zA (Kd.S_below zq54 hb); have HO837 := zA (Kd.R_lower (Kd.R_new' (Kd.R_new' ho0 (Kd.R_lt zq55)) (Kd.R_lt zq56)) (below_size zq0)); replace HO_817000 := zA (Kd.R_elder' zq55 (Kd.R_base ho0) hb); replace HO_832000 := zA (Kd.R_elder' zq56 (Kd.R_base ho0) hb); replace BK808 := zA (zbb BK808.out hb); replace BK815 := zA (zbb BK815.out hb); replace BK816 := zA (zbb BK816.out hb); replace BK831 := zA (zbb BK831.out hb); replace HB := zA (below_step zq0 hb); clear hb ho0))
      (try simp only [zvs])
      replace H := zP H; rcases H with ⟨c126, H⟩ | ⟨c126, H⟩
      ·have c126b0 : ((t835.length : Int) == 0) = true := beq_iff_eq.mpr c126
       have c126b1 : ((t835.length : Int) != 0) = false := bne_eq_false_iff_eq.mpr c126
       clear c126
       obtain ⟨Ao128, co128, eo128⟩ := Kd.R_slice HO837.out
       subst eo128
       go_upto_region 19 with fail
       obtain ⟨rfl, rfl, rfl, rfl, rfl, rfl⟩ := zt6 H
       have hn129 := zn NB808_815
       have hn130 := zn NB808_816
       have hn131 := zn NB808_831
       have hz132 := zc5 BK808.out
       go_wp2
       refine bodyPost_ret (results_ct rfl _ _ gb808 26 #[.int .i64 0, .int .i64 0, .int .i64 0, .int .i64 0, .slice none 0 0] (0, 0) _ rfl (zbp BK808.out) Try.underlying26 rfl (by kernel_rfl)) rfl ?_
       exact ⟨_, zq1, zq70, zq0⟩
      have c126b0 : ((t835.length : Int) == 0) = false := beq_eq_false_iff_ne.mpr c126
      have c126b1 : ((t835.length : Int) != 0) = true := bne_iff_ne.mpr c126
      have c126b2 : ¬ (t835 = []) := fun h_ => c126 (by rw [h_]; rfl)
      replace H := zP H; rcases H with ⟨c133, H⟩ | ⟨c133, H⟩
      ·have c133b0 : ((strOfNums t835).toList == (strOfNums l0).toList) = true := beq_iff_eq.mpr c133
       have c133b1 : ((strOfNums t835).toList != (strOfNums l0).toList) = false := bne_eq_false_iff_eq.mpr c133
       clear c133
       obtain ⟨Ao135, co135, eo135⟩ := Kd.R_slice HO837.out
       subst eo135
       have hcv136 := own_string (P := Try.prog) Try.underlying22 Try.underlying5 Try.underlying9 (Kd.own_of_R HO837.out)
       have hcv137 := Kd.C_string (P := Try.prog) (A := A0) (c := c0) Try.underlying22 Try.underlying5 Try.underlying9 (Kd.C_below HR0.out HB.out)
       go_upto_region 20 with fail
       obtain ⟨rfl, rfl, rfl, rfl, rfl, rfl⟩ := zt6 H
       have hn138 := zn NB815_808
       have hn139 := zn NB815_816
       have hn140 := zn NB815_831
       have hz141 := zc5 BK815.out
       have hn142 := zn NB808_816
       have hn143 := zn NB808_831
       have hz144 := zc5 BK808.out
       go_wp2
       refine bodyPost_ret (results_ct rfl _ _ gb808 26 #[.int .i64 t809, .int .i64 t817, .int .i64 t820, .int .i64 t823, .slice Ao124 x816004_2.length co124] (0, 0) _ rfl (zbp BK808.out) Try.underlying26 rfl (by kernel_rfl)) rfl ?_
       exact ⟨_, zq1, (by (with_reducible repeat (first | apply Kd.S_alloc | apply Kd.S_drewN | apply Kd.S_drew)); exact Kd.S_mono (Kd.S_far (p := ⟨gb808, 4, none⟩) (Kd.S_far (p := ⟨gb808, 3, none⟩) (Kd.S_far (p := ⟨gb808, 2, none⟩) (Kd.S_far (p := ⟨gb808, 1, none⟩) (Kd.S_far (p := ⟨gb808, 0, none⟩) (Kd.S_types HO_816004.out BK808.out zq52) (fun _ hk => hk.2) (.int .i64 t809)) (fun _ hk => hk.2) (.int .i64 t817)) (fun _ hk => hk.2) (.int .i64 t820)) (fun _ hk => hk.2) (.int .i64 t823)) (fun _ hk => hk.2) (.slice Ao124 x816004_2.length co124)) (fun _ hk => trivial)), zq0⟩
      have c133b0 : ((strOfNums t835).toList == (strOfNums l0).toList) = false := beq_eq_false_iff_ne.mpr c133
      have c133b1 : ((strOfNums t835).toList != (strOfNums l0).toList) = true := bne_iff_ne.mpr c133
      obtain ⟨Ao146, co146, eo146⟩ := Kd.R_slice HO837.out
      subst eo146
      have hcv147 := own_string (P := Try.prog) Try.underlying22 Try.underlying5 Try.underlying9 (Kd.own_of_R HO837.out)
      have hcv148 := Kd.C_string (P := Try.prog) (A := A0) (c := c0) Try.underlying22 Try.underlying5 Try.underlying9 (Kd.C_below HR0.out HB.out)
      go_upto_region 19 with fail
      obtain ⟨rfl, rfl, rfl, rfl, rfl, rfl⟩ := zt6 H
      have hn149 := zn NB808_815
      have hn150 := zn NB808_816
      have hn151 := zn NB808_831
      have hz152 := zc5 BK808.out
      go_wp2
      refine bodyPost_ret (results_ct rfl _ _ gb808 26 #[.int .i64 0, .int .i64 0, .int .i64 0, .int .i64 0, .slice none 0 0] (0, 0) _ rfl (zbp BK808.out) Try.underlying26 rfl (by kernel_rfl)) rfl ?_
      exact ⟨_, zq1, zq70, zq0⟩
   go_upto_region 11 with (first | (go_at_call 115; (with_reducible refine (impl_parts_done.callsB gb816 Ao20 co20 t810 t829 t830 false t833 t834 w _ ?side1 ?side2 ?side3 ?side4 ?side5 ?side6 A48.out).mono ?_); (case side1 => exact zq10); (case side2 => exact zq35); (case side3 => exact (Kd.R_reads' HO_5.out).2.1); (case side4 => exact LT816_0.out); (case side5 => exact zq0); (case side6 => exact GE816.out); rintro e w154 ⟨rfl, hi, hb, hk⟩; replace HO_5 := zA (Kd.R_mono (Kd.R_keep (Kd.R_types (g := gb816) (t := 127) (cells := #[.slice Ao20 t810.length co20, .int .i64 t829, .bool t830]) zq11 zq10 zq52) hk (fun _ h => h.2)) (fun _ h => h.1)); replace BK808 := zA (zkb hk BK808.out NB808_816.out); replace BK815 := zA (zkb hk BK815.out NB815_816.out); replace HO828 := zA (Kd.R_mono (Kd.R_keep (Kd.R_types (g := gb816) (t := 127) (cells := #[.slice Ao20 t810.length co20, .int .i64 t829, .bool t830]) (zrk HO828.out) zq10 zq52) hk (fun _ h => h.2)) (fun _ h => h.1)); replace BK831 := zA (zkb hk BK831.out NB831_816.out); replace HB := zA (hb); replace BK816 := zA (hi); clear hb hk hi))
   (try simp only [zvs])
   obtain ⟨rfl, rfl, rfl, rfl, rfl, rfl⟩ := zt6 H
   have hn155 := zn NB808_815
   have hn156 := zn NB808_816
   have hn157 := zn NB808_831
   have hz158 := zc5 BK808.out
   go_wp2
   refine bodyPost_ret (results_ct rfl _ _ gb808 26 #[.int .i64 0, .int .i64 0, .int .i64 0, .int .i64 0, .slice none 0 0] (0, 0) _ rfl (zbp BK808.out) Try.underlying26 rfl (by kernel_rfl)) rfl ?_
   exact ⟨_, zq1, zq70, zq0⟩

end Go.Proofs.Ytkcgghgkmgbphaa.PFnMsgs
