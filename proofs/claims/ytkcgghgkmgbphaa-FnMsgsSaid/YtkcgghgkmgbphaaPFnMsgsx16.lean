-- WRITTEN BY a turned copy of the kit's printer (wip/patch_print.py), for this claim
import Derived.Test.YtkcgghgkmgbphaaPFnMsgsx0
import Derived.Test.YtkcgghgkmgbphaaPFnMsgsx3
import Derived.Test.YtkcgghgkmgbphaaPFnMsgsx15
namespace Go.Proofs.Ytkcgghgkmgbphaa.PFnMsgs
open Go.RowKit Go.Proofs.YtkcgghgkmgbphaaW.PrintWords Go.Proofs.YtkcgghgkmgbphaaW.PrintLast Go.Proofs.YtkcgghgkmgbphaaW.PrintMore
attribute [local go_sem] max2_int min2_int max_two min_two max_three min_three max_four min_four   -- for this text's walks alone
set_option linter.unusedVariables false
set_option linter.unusedSimpArgs false
set_option maxHeartbeats 8000000
set_option maxRecDepth 100000

attribute [local go_sem] cell_setCell_m
/-! ### spec_l1Num: function 181 -/
def spec_l1Num.f (s0_0 : List Int) (s0_1 : Int) (s0_2 : Int) : Option (Int × Int × Int) := (spec_l1Below.f s0_0 s0_1 s0_2 1000).bind fun bt525 => ((spec_l1Int.f s0_0 bt525.2.1 bt525.2.2 (([0, 1, (-1), 127, 128, (-128), (-129), 255, 256, 32767, 32768, (-32769), 8388608, 2147483647, (-2147483648), 2147483648, (-2147483649), 9223372036854775807, (-9223372036854775808), bt525.1] : List Int))).bind fun bt531 => (some (bt531.1, bt531.2.1, bt531.2.2)))
theorem spec_l1Num.calls (g : Nat) (s0_0 : List Int) (s0_1 : Int) (s0_2 : Int) (r1 : Int) (r2 : Int) (r3 : Int) (w0 w : World) (hI : IsS170 w0 w g s0_0 s0_1 s0_2) (hB : Below w0.heap.size w0 w) (h : spec_l1Num.f s0_0 s0_1 s0_2 = some (r1, r2, r3)) :
  Calls Try.prog 181 #[.pointer (some ⟨g, 0, none⟩)] w fun e w' => e = .returned (.int .i64 r1) ∧ IsS170 w0 w' g s0_0 r2 r3 ∧ Below w0.heap.size w0 w' ∧ KeepBut w w' g none := by
 have HI0 := zA hI
 have HK := zA (KeepBut.refl w g none)
 have HL := zA hB.size
 clear hI
 have HW0 := zA hB.size
 have HB := zA hB
 clear hB
 unfold spec_l1Num.f at h
 have H := zA h
 clear h
 go_enter Try.func181, Try.ntmps181
 go_upto_region 0 with fail
 go_upto_region 1 with fail
 replace H := zB H; obtain ⟨⟨t525, t526, t527⟩, A4, H⟩ := H
 try dsimp only at H
 obtain ⟨y528, hy528⟩ : ∃ y_ : List Int, y_ = (([0, 1, (-1), 127, 128, (-128), (-129), 255, 256, 32767, 32768, (-32769), 8388608, 2147483647, (-2147483648), 2147483648, (-2147483649), 9223372036854775807, (-9223372036854775808), t525] : List Int)) := ⟨_, rfl⟩
 rw [← hy528] at H
 have Ny528 := zA hy528
 clear hy528
 replace H := zB H; obtain ⟨⟨t531, t532, t533⟩, A5, H⟩ := H
 try dsimp only at H
 obtain ⟨rfl, rfl, rfl⟩ := zt3 H
 go_wp2_with (first | ((with_reducible refine zg131 rfl ?_); refine zl131 (some 5) #[.pointer (some ⟨g, 0, none⟩), .int .i64 1000] ?_; (with_reducible refine (spec_l1Below.calls g s0_0 s0_1 s0_2 1000 t525 t526 t527 w0 _ ?side1 ?side2 A4.out).mono ?_); (case side1 => exact zq3); (case side2 => exact zq6); rintro e w6 ⟨rfl, hi, hb, hk⟩; refine ⟨_, rfl, ?_⟩; replace HK := zA (KeepBut.trans zq2 hk (.inl rfl)); replace HB := zA (hb); replace HI0 := zA (hi); clear hb hk hi) | ((with_reducible refine gate_dst (N := 6) rfl ?_); refine Kd.R_lit (Kd.int .i64) _ 3 ?hg (N := 6) ?hd (xs := ([0, 1, (-1), 127, 128, (-128), (-129), 255, 256, 32767, 32768, (-32769), 8388608, 2147483647, (-2147483648), 2147483648, (-2147483649), 9223372036854775807, (-9223372036854775808), t525] : List Int)) (inner := [.int .i64 0, .int .i64 1, .int .i64 (-1), .int .i64 127, .int .i64 128, .int .i64 (-128), .int .i64 (-129), .int .i64 255, .int .i64 256, .int .i64 32767, .int .i64 32768, .int .i64 (-32769), .int .i64 8388608, .int .i64 2147483647, .int .i64 (-2147483648), .int .i64 2147483648, .int .i64 (-2147483649), .int .i64 9223372036854775807, .int .i64 (-9223372036854775808), .int .i64 t525]) (ok := fun _ => True) (okp := fun _ => True) ?hr ?hp (fun _ hk => hk) trivial (Below.refl _ _) (Nat.le_refl _) zq219 ?_; (case hd => rfl); (case hg => rfl); (case hr => exact zgs); (case hp => exact (Reps.one (show Kd.M (Kd.int .i64) _ _ _ 0 [.int .i64 0] from rfl) (Reps.one (show Kd.M (Kd.int .i64) _ _ _ 1 [.int .i64 1] from rfl) (Reps.one (show Kd.M (Kd.int .i64) _ _ _ (-1) [.int .i64 (-1)] from rfl) (Reps.one (show Kd.M (Kd.int .i64) _ _ _ 127 [.int .i64 127] from rfl) (Reps.one (show Kd.M (Kd.int .i64) _ _ _ 128 [.int .i64 128] from rfl) (Reps.one (show Kd.M (Kd.int .i64) _ _ _ (-128) [.int .i64 (-128)] from rfl) (Reps.one (show Kd.M (Kd.int .i64) _ _ _ (-129) [.int .i64 (-129)] from rfl) (Reps.one (show Kd.M (Kd.int .i64) _ _ _ 255 [.int .i64 255] from rfl) (Reps.one (show Kd.M (Kd.int .i64) _ _ _ 256 [.int .i64 256] from rfl) (Reps.one (show Kd.M (Kd.int .i64) _ _ _ 32767 [.int .i64 32767] from rfl) (Reps.one (show Kd.M (Kd.int .i64) _ _ _ 32768 [.int .i64 32768] from rfl) (Reps.one (show Kd.M (Kd.int .i64) _ _ _ (-32769) [.int .i64 (-32769)] from rfl) (Reps.one (show Kd.M (Kd.int .i64) _ _ _ 8388608 [.int .i64 8388608] from rfl) (Reps.one (show Kd.M (Kd.int .i64) _ _ _ 2147483647 [.int .i64 2147483647] from rfl) (Reps.one (show Kd.M (Kd.int .i64) _ _ _ (-2147483648) [.int .i64 (-2147483648)] from rfl) (Reps.one (show Kd.M (Kd.int .i64) _ _ _ 2147483648 [.int .i64 2147483648] from rfl) (Reps.one (show Kd.M (Kd.int .i64) _ _ _ (-2147483649) [.int .i64 (-2147483649)] from rfl) (Reps.one (show Kd.M (Kd.int .i64) _ _ _ 9223372036854775807 [.int .i64 9223372036854775807] from rfl) (Reps.one (show Kd.M (Kd.int .i64) _ _ _ (-9223372036854775808) [.int .i64 (-9223372036854775808)] from rfl) (Reps.one (show Kd.M (Kd.int .i64) _ _ _ t525 [.int .i64 t525] from rfl) (Reps.none _ _)))))))))))))))))))))); intro v529 w7 ho8 hb hg_ hnew_; clear hg_ hnew_; (first | rw [← Ny528.out] at ho8 | (simp only [Int.reduceToNat] at ho8; rw [← Ny528.out] at ho8)); have HO530 := zA (Kd.R_lower ho8 (keep_size (w := w) (g := g) (row := none) zq2)); replace HK := zA (KeepBut.trans zq2 (KeepBut.of_below hb g none) (.inl rfl)); replace HB := zA (below_step zq6 hb); replace HI0 := zA (IsS170.below zq3 hb); clear hb ho8; obtain ⟨Ao9, co9, eo9⟩ := Kd.R_slice HO530.out; subst eo9) | ((with_reducible refine zg140 rfl ?_); refine zl140 (some 7) #[.pointer (some ⟨g, 0, none⟩), .slice Ao9 y528.length co9] ?_; (with_reducible refine (spec_l1Int.calls g s0_0 t526 t527 _ _ y528 t531 t532 t533 w0 _ ?side1 ?side2 ?side3 ?side4 ?side5 A5.out).mono ?_); (case side1 => exact zq3); (case side2 => exact zq6); (case side3 => exact (zck (Kd.R_reads' HO530.out).2.2)); (case side4 => exact (Kd.R_reads' HO530.out).2.1); (case side5 => exact far_slice (IsS170.own_ne HI0.out HO530.out zq52)); rintro e w10 ⟨rfl, hi, hb, hk⟩; refine ⟨_, rfl, ?_⟩; replace HO530 := zA (Kd.R_mono (Kd.R_keep (IsS170.apart (show IsS170 w0 _ g s0_0 t526 t527 from zq3) (zrk HO530.out) zq52) hk (fun _ h => h.2)) (fun _ h => h.1)); replace HK := zA (KeepBut.trans zq2 hk (.inl rfl)); replace HB := zA (hb); replace HI0 := zA (hi); clear hb hk hi))
 go_ret
 exact ⟨zq1, zq3, zq6, zq2⟩

/-! ### spec_l3Int: function 191 -/
def spec_l3Int.f (a0 : Int) : Option (Int × Int × ByteArray × List Int) := some (2, a0, (⟨#[]⟩ : ByteArray), ([] : List Int))
theorem spec_l3Int.calls (a0 : Int) (r1 : Int) (r2 : Int) (r3 : ByteArray) (r4 : List Int) (w : World) (h : spec_l3Int.f a0 = some (r1, r2, r3, r4)) :
  Calls Try.prog 191 #[.int .i64 a0] w fun e w' => ∃ v3_ : Value, e = .returned (.agg #[.int .i64 r1, .int .i64 r2, .string r3, v3_]) ∧ Kd.R (Kd.int .i64) 3 w' w.heap.size (fun _ => True) v3_ r4 ∧ Below w.heap.size w w' := by
 have hu76 := Try.underlying76
 have HB := zA (Below.refl w.heap.size w)
 unfold spec_l3Int.f at h
 have H := zA h
 clear h
 go_enter Try.func191, Try.ntmps191
 go_upto_region 0 with fail
 go_upto_region 1 with (first | ((with_reducible refine gate_dst (N := 2) rfl ?_); refine box_event ?hg (N := 2) ?hd (cs := #[.int .i64 0, .int .i64 0, .string (⟨#[]⟩ : ByteArray), .slice none 0 0]) (t := 76) ?hr ?_; (case hd => rfl); (case hg => rfl); (case hr => exact zgs); intro gb534 hg w4 hbox hb; have BK534 := zA (hbox); have GW534 := zA ((zq5 : w.heap.size ≤ gb534)); have GE534 := zA ((zq5 : w.heap.size ≤ gb534)); replace HB := zA (below_step zq0 hb); clear hb hbox hg))
 (try simp only [zvs])
 obtain ⟨rfl, rfl, rfl, rfl⟩ := zt4 H
 have hz5 := zc4 BK534.out
 go_wp2
 refine bodyPost_ret (results_cell_row rfl _ _ gb534 76 #[.int .i64 2, .int .i64 a0, .string (⟨#[]⟩ : ByteArray), .slice none 0 0] (0, 0) _ rfl (zbp BK534.out) Try.underlying76 rfl (by kernel_rfl)) rfl ?_
 exact ⟨_, zq1, zq7, zq0⟩

/-! ### spec_l3Draw: function 168 -/
def spec_l3Draw.j0 : Nat → Int → Bool → List Int → Int → Int → Option (Int × Int × ByteArray × List Int × Int × Int)
 | 0, _, _, _, _, _ => none
 | k + 1, x4, x8, x1000, x1001, x1002 => if x8 = true then ((spec_l1Num.f x1000 x1001 x1002).bind fun bt539 => ((spec_l1Clip.f bt539.1).bind fun t542 => ((spec_l3Int.f t542).bind fun bt543 => (some (bt543.1, bt543.2.1, bt543.2.2.1, bt543.2.2.2, bt539.2.1, bt539.2.2))))) else (if x4 = 3 then ((spec_l1Str.f x1000 x1001 x1002 (([(⟨#[]⟩ : ByteArray), (⟨#[97]⟩ : ByteArray), (⟨#[121, 97, 114, 100]⟩ : ByteArray), (⟨#[0]⟩ : ByteArray)] : List ByteArray))).bind fun bt552 => (some (4, 0, bt552.1, ([] : List Int), bt552.2.1, bt552.2.2))) else (if x4 = 4 then ((spec_l2Draw.f k x1000 x1001 x1002).bind fun bt555 => (some (6, 0, (⟨#[]⟩ : ByteArray), bt555.1, bt555.2.1, bt555.2.2))) else ((spec_l1Int.f x1000 x1001 x1002 (([128, 130] : List Int))).bind fun bt563 => (some (bt563.1, 0, (⟨#[]⟩ : ByteArray), ([] : List Int), bt563.2.1, bt563.2.2)))))
def spec_l3Draw.f (k : Nat) (s0_0 : List Int) (s0_1 : Int) (s0_2 : Int) : Option (Int × Int × ByteArray × List Int × Int × Int) := (spec_l1Below.f s0_0 s0_1 s0_2 6).bind fun bt536 => (if bt536.1 = 0 then (some (5, 0, (⟨#[]⟩ : ByteArray), ([] : List Int), bt536.2.1, bt536.2.2)) else (if bt536.1 = 1 then (spec_l3Draw.j0 k bt536.1 (bt536.1 == 1) s0_0 bt536.2.1 bt536.2.2) else (spec_l3Draw.j0 k bt536.1 (bt536.1 == 2) s0_0 bt536.2.1 bt536.2.2)))
theorem spec_l3Draw.mono_l : ∀ k, (∀ y0 y1 y2 y3 y4, LeO (spec_l3Draw.j0 k y0 y1 y2 y3 y4) (spec_l3Draw.j0 (k + 1) y0 y1 y2 y3 y4))
 | 0 => fun _ _ _ _ _ r h => by simp [spec_l3Draw.j0] at h
 | k + 1 => by
  have ih0 := spec_l3Draw.mono_l k
  ·intro y0 y1 y2 y3 y4
   unfold spec_l3Draw.j0
   have m0_ := @spec_l2Draw.mono
   exact zR
theorem spec_l3Draw.mono : ∀ a0 a1 a2 k, LeO (spec_l3Draw.f k a0 a1 a2) (spec_l3Draw.f (k + 1) a0 a1 a2) := by
 intro a0 a1 a2 k
 have ih0 := spec_l3Draw.mono_l k
 unfold spec_l3Draw.f
 have m0_ := @spec_l2Draw.mono
 exact zR
theorem spec_l3Draw.calls (k : Nat) (g : Nat) (s0_0 : List Int) (s0_1 : Int) (s0_2 : Int) (r1 : Int) (r2 : Int) (r3 : ByteArray) (r4 : List Int) (r5 : Int) (r6 : Int) (w0 w : World) (hI : IsS170 w0 w g s0_0 s0_1 s0_2) (hB : Below w0.heap.size w0 w) (h : spec_l3Draw.f k s0_0 s0_1 s0_2 = some (r1, r2, r3, r4, r5, r6)) :
  Calls Try.prog 168 #[.pointer (some ⟨g, 0, none⟩)] w fun e w' => ∃ v3_ : Value, e = .returned (.agg #[.int .i64 r1, .int .i64 r2, .string r3, v3_]) ∧ Kd.R (Kd.int .i64) 3 w' w.heap.size (fun _ => True) v3_ r4 ∧ IsS170 w0 w' g s0_0 r5 r6 ∧ Below w0.heap.size w0 w' ∧ KeepBut w w' g none := by
 have hu76 := Try.underlying76
 have HI0 := zA hI
 have HK := zA (KeepBut.refl w g none)
 have HL := zA hB.size
 clear hI
 have HW0 := zA hB.size
 have HB := zA hB
 clear hB
 unfold spec_l3Draw.f at h
 have H := zA h
 clear h
 go_enter Try.func168, Try.ntmps168
 go_upto_region 0 with fail
 go_upto_region 1 with (first | ((with_reducible refine gate_dst (N := 2) rfl ?_); refine box_event ?hg (N := 2) ?hd (cs := #[.int .i64 0, .int .i64 0, .string (⟨#[]⟩ : ByteArray), .slice none 0 0]) (t := 76) ?hr ?_; (case hd => rfl); (case hg => rfl); (case hr => exact zgs); intro gb535 hg w4 hbox hb; replace HB := zA (below_step zq6 hb); have BK535 := zA (hbox); have GW535 := zA ((zq77 : w.heap.size ≤ gb535)); have GE535 := zA ((Nat.le_trans HW0.out (zq77 : w.heap.size ≤ gb535) : w0.heap.size ≤ gb535)); replace HK := zA (KeepBut.trans zq2 (KeepBut.of_below hb g none) (.inl rfl)); have NB0_535 := zA ((zq122 : g ≠ gb535)); have NB535_0 := zA ((zq123 : gb535 ≠ g)); replace HI0 := zA (IsS170.below zq3 hb); clear hb hbox hg))
 (try simp only [zvs])
 replace H := zB H; obtain ⟨⟨t536, t537, t538⟩, A5, H⟩ := H
 try dsimp only at H
 go_upto_region 2 with (first | ((with_reducible refine zg131 rfl ?_); refine zl131 (some 4) #[.pointer (some ⟨g, 0, none⟩), .int .i64 6] ?_; (with_reducible refine (spec_l1Below.calls g s0_0 s0_1 s0_2 6 t536 t537 t538 w0 _ ?side1 ?side2 A5.out).mono ?_); (case side1 => exact zq30); (case side2 => exact zq37); rintro e w7 ⟨rfl, hi, hb, hk⟩; refine ⟨_, rfl, ?_⟩; replace BK535 := zA (zkb hk BK535.out NB535_0.out); replace HK := zA (KeepBut.trans zq34 hk (.inl rfl)); replace HB := zA (hb); replace HI0 := zA (hi); clear hb hk hi))
 (try simp only [zvs])
 replace H := zP H; rcases H with ⟨c8, H⟩ | ⟨c8, H⟩
 ·have c8b0 : (t536 == 0) = true := beq_iff_eq.mpr c8
  have c8b1 : (t536 != 0) = false := bne_eq_false_iff_eq.mpr c8
  clear c8
  go_upto_region 3 with fail
  obtain ⟨rfl, rfl, rfl, rfl, rfl, rfl⟩ := zt6 H
  have hn10 := zn NB535_0
  have hz11 := zc4 BK535.out
  go_wp2
  refine bodyPost_ret (results_cell_row rfl _ _ gb535 76 #[.int .i64 5, .int .i64 0, .string (⟨#[]⟩ : ByteArray), .slice none 0 0] (0, 0) _ rfl (zbp BK535.out) Try.underlying76 rfl (by kernel_rfl)) rfl ?_
  exact ⟨_, zq1, zq7, zq30, zq37, zq34⟩
 have c8b0 : (t536 == 0) = false := beq_eq_false_iff_ne.mpr c8
 have c8b1 : (t536 != 0) = true := bne_iff_ne.mpr c8
 go_upto_region 4 with fail
 go_upto_if 8 with fail
 go_cut [8] (fun v8 wc => ∃ (kq : Nat) (x8_12 : Bool), v8 = .bool x8_12 ∧ Aside0 (spec_l3Draw.j0 kq t536 x8_12 s0_0 t537 t538 = some (r1, r2, r3, r4, r5, r6)) ∧ Aside0 (kq ≤ k) ∧ Aside0 (wc.heap[gb535]? = some (.cells #[.int .i64 0, .int .i64 0, .string (⟨#[]⟩ : ByteArray), (.slice none 0 0)] 76 (0, 0))) ∧ Aside0 (IsS170 w0 wc g s0_0 t537 t538) ∧ Aside0 (KeepBut w wc g none) ∧ Aside0 (Below w0.heap.size w0 wc))
 case first =>
  replace H := zP H; rcases H with ⟨c14, H⟩ | ⟨c14, H⟩
  ·have c14b0 : (t536 == 1) = true := beq_iff_eq.mpr c14
   have c14b1 : (t536 != 1) = false := bne_eq_false_iff_eq.mpr c14
   clear c14
   (first | rw [c14b0] | (simp only [i64_w, i32_w]; rw [c14b0]) | skip)
   have H' := H; clear H
   go_wp2
   go_meet
   case rel => exact ⟨_, ((t536 == 1)), zq15, H', ⟨zq120⟩, ⟨(zbk BK535.out)⟩, ⟨zq30⟩, ⟨zq34⟩, ⟨zq37⟩⟩
  have c14b0 : (t536 == 1) = false := beq_eq_false_iff_ne.mpr c14
  have c14b1 : (t536 != 1) = true := bne_iff_ne.mpr c14
  (first | rw [c14b0] | (simp only [i64_w, i32_w]; rw [c14b0]) | skip)
  go_upto_region 5 with fail
  have H' := H; clear H
  go_wp2
  go_meet
  case rel => exact ⟨_, ((t536 == 2)), zq15, H', ⟨zq120⟩, ⟨(zbk BK535.out)⟩, ⟨zq30⟩, ⟨zq34⟩, ⟨zq37⟩⟩
 case rest =>
  try clear c1
  try clear p2
  try clear c8
  try clear c8b0
  try clear c8b1
  try clear c10
  try clear c13
  try clear c14
  try clear c14b0
  try clear c14b1
  try clear hz11
  obtain ⟨kq, x8_12, rfl, HA, HJ12, BK535, HI0, HK, HB⟩ := hcut
  cases kq with
  | zero => exact absurd HA.out (by simp [spec_l3Draw.j0])
  | succ kj12 =>
   have H := HA
   clear HA
   simp only [spec_l3Draw.j0] at H
   replace H := zE H; rcases H with ⟨rfl, H⟩ | ⟨rfl, H⟩
   ·go_upto_region 6 with fail
    replace H := zB H; obtain ⟨⟨t539, t540, t541⟩, A18, H⟩ := H
    try dsimp only at H
    replace H := zB H; obtain ⟨t542, A19, H⟩ := H
    try dsimp only at H
    replace H := zB H; obtain ⟨⟨t543, t544, t545, t546⟩, A20, H⟩ := H
    try dsimp only at H
    obtain ⟨rfl, rfl, rfl, rfl, rfl, rfl⟩ := zt6 H
    go_wp2_with (first | ((with_reducible refine zg181 rfl ?_); refine zl181 (some 12) #[.pointer (some ⟨g, 0, none⟩)] ?_; (with_reducible refine (spec_l1Num.calls g s0_0 t537 t538 t539 t540 t541 w0 _ ?side1 ?side2 A18.out).mono ?_); (case side1 => exact zq30); (case side2 => exact zq37); rintro e w21 ⟨rfl, hi, hb, hk⟩; refine ⟨_, rfl, ?_⟩; replace BK535 := zA (zkb hk BK535.out NB535_0.out); replace HK := zA (KeepBut.trans zq34 hk (.inl rfl)); replace HB := zA (hb); replace HI0 := zA (hi); clear hb hk hi) | ((with_reducible refine zg174 rfl ?_); refine zl174 (some 13) #[.int .i64 t539] ?_; (with_reducible refine (spec_l1Clip.calls t539 t542 _ A19.out).mono ?_); rintro e w' ⟨rfl, ⟨nd, rfl⟩⟩; refine ⟨_, rfl, ?_⟩; (try (rw [drewN_self w21]; generalize hq_ : World.drewN w21 _ = w21; have n0_ : Aside0 (w21.heap[gb535]? = some (.cells #[.int .i64 0, .int .i64 0, .string (⟨#[]⟩ : ByteArray), .slice none 0 0] 76 (0, 0))) := ⟨(by rw [← hq_]; exact (zbk BK535.out))⟩; have n1_ : Aside0 (IsS170 w0 w21 g s0_0 t540 t541) := ⟨(by rw [← hq_]; exact zq30)⟩; have n2_ : Aside0 (KeepBut w w21 g none) := ⟨(by rw [← hq_]; exact zq34)⟩; have n3_ : Aside0 (Below w0.heap.size w0 w21) := ⟨(by rw [← hq_]; exact zq37)⟩; clear BK535 HI0 HK HB hq_; have BK535 := n0_; have HI0 := n1_; have HK := n2_; have HB := n3_; clear n0_ n1_ n2_ n3_))) | ((with_reducible refine zg191 rfl ?_); refine zl191 (some 14) #[.int .i64 t542] ?_; (with_reducible refine (spec_l3Int.calls t542 t543 t544 t545 t546 _ A20.out).mono ?_); rintro e w22 ⟨v547, rfl, ho0, hb⟩; refine ⟨_, rfl, ?_⟩; have HO548 := zA (Kd.R_lower ho0 (keep_size (w := w) (g := g) (row := none) zq34)); replace BK535 := zA (zbb BK535.out hb); replace HK := zA (KeepBut.trans zq34 (KeepBut.of_below hb g none) (.inl rfl)); replace HB := zA (below_step zq37 hb); replace HI0 := zA (IsS170.below zq30 hb); clear hb ho0; have hn23 := zn NB535_0; have hz24 := zc4 BK535.out; obtain ⟨Ao25, co25, eo25⟩ := Kd.R_slice HO548.out; subst eo25))
    refine bodyPost_ret (results_cell_row rfl _ _ gb535 76 #[.int .i64 t543, .int .i64 t544, .string t545, .slice Ao25 t546.length co25] (0, 0) _ rfl (zbp BK535.out) Try.underlying76 rfl (by kernel_rfl)) rfl ?_
    exact ⟨_, zq1, (by (with_reducible repeat (first | apply Kd.R_alloc | apply Kd.R_drewN | apply Kd.R_drew)); exact Kd.R_mono (Kd.R_far (p := ⟨gb535, 3, none⟩) (Kd.R_far (p := ⟨gb535, 2, none⟩) (Kd.R_far (p := ⟨gb535, 1, none⟩) (Kd.R_far (p := ⟨gb535, 0, none⟩) (Kd.R_types HO548.out BK535.out zq52) (fun _ hk => hk.2) (.int .i64 t543)) (fun _ hk => hk.2) (.int .i64 t544)) (fun _ hk => hk.2) (.string t545)) (fun _ hk => hk.2) (.slice Ao25 t546.length co25)) (fun _ hk => trivial)), zq30, zq37, zq34⟩
   go_upto_region 7 with fail
   replace H := zP H; rcases H with ⟨c27, H⟩ | ⟨c27, H⟩
   ·have c27b0 : (t536 == 3) = true := beq_iff_eq.mpr c27
    have c27b1 : (t536 != 3) = false := bne_eq_false_iff_eq.mpr c27
    clear c27
    go_upto_region 8 with fail
    obtain ⟨y549, hy549⟩ : ∃ y_ : List ByteArray, y_ = (([(⟨#[]⟩ : ByteArray), (⟨#[97]⟩ : ByteArray), (⟨#[121, 97, 114, 100]⟩ : ByteArray), (⟨#[0]⟩ : ByteArray)] : List ByteArray)) := ⟨_, rfl⟩
    rw [← hy549] at H
    have Ny549 := zA hy549
    clear hy549
    replace H := zB H; obtain ⟨⟨t552, t553, t554⟩, A29, H⟩ := H
    try dsimp only at H
    obtain ⟨rfl, rfl, rfl, rfl, rfl, rfl⟩ := zt6 H
    go_wp2_with (first | ((with_reducible refine gate_dst (N := 18) rfl ?_); refine Kd.R_lit Kd.string _ 9 ?hg (N := 18) ?hd (xs := ([(⟨#[]⟩ : ByteArray), (⟨#[97]⟩ : ByteArray), (⟨#[121, 97, 114, 100]⟩ : ByteArray), (⟨#[0]⟩ : ByteArray)] : List ByteArray)) (inner := [.string (⟨#[]⟩ : ByteArray), .string (⟨#[97]⟩ : ByteArray), .string (⟨#[121, 97, 114, 100]⟩ : ByteArray), .string (⟨#[0]⟩ : ByteArray)]) (ok := fun _ => True) (okp := fun _ => True) ?hr ?hp (fun _ hk => hk) trivial (Below.refl _ _) (Nat.le_refl _) zq219 ?_; (case hd => rfl); (case hg => rfl); (case hr => exact zgs); (case hp => exact (Reps.one (show Kd.M Kd.string _ _ _ (⟨#[]⟩ : ByteArray) [.string (⟨#[]⟩ : ByteArray)] from rfl) (Reps.one (show Kd.M Kd.string _ _ _ (⟨#[97]⟩ : ByteArray) [.string (⟨#[97]⟩ : ByteArray)] from rfl) (Reps.one (show Kd.M Kd.string _ _ _ (⟨#[121, 97, 114, 100]⟩ : ByteArray) [.string (⟨#[121, 97, 114, 100]⟩ : ByteArray)] from rfl) (Reps.one (show Kd.M Kd.string _ _ _ (⟨#[0]⟩ : ByteArray) [.string (⟨#[0]⟩ : ByteArray)] from rfl) (Reps.none _ _)))))); intro v550 w30 ho31 hb hg_ hnew_; clear hg_ hnew_; (first | rw [← Ny549.out] at ho31 | (simp only [Int.reduceToNat] at ho31; rw [← Ny549.out] at ho31)); have HO551 := zA (Kd.R_lower ho31 (keep_size (w := w) (g := g) (row := none) zq34)); replace BK535 := zA (zbb BK535.out hb); replace HK := zA (KeepBut.trans zq34 (KeepBut.of_below hb g none) (.inl rfl)); replace HB := zA (below_step zq37 hb); replace HI0 := zA (IsS170.below zq30 hb); clear hb ho31; obtain ⟨Ao32, co32, eo32⟩ := Kd.R_slice HO551.out; subst eo32) | ((with_reducible refine zg176 rfl ?_); refine zl176 (some 19) #[.pointer (some ⟨g, 0, none⟩), .slice Ao32 y549.length co32] ?_; (with_reducible refine (spec_l1Str.calls g s0_0 t537 t538 _ _ y549 t552 t553 t554 w0 _ ?side1 ?side2 ?side3 ?side4 ?side5 A29.out).mono ?_); (case side1 => exact zq30); (case side2 => exact zq37); (case side3 => exact (zck (Kd.R_reads' HO551.out).2.2)); (case side4 => exact (Kd.R_reads' HO551.out).2.1); (case side5 => exact far_slice (IsS170.own_ne HI0.out HO551.out zq52)); rintro e w33 ⟨rfl, hi, hb, hk⟩; refine ⟨_, rfl, ?_⟩; replace BK535 := zA (zkb hk BK535.out NB535_0.out); replace HO551 := zA (Kd.R_mono (Kd.R_keep (IsS170.apart (show IsS170 w0 _ g s0_0 t537 t538 from zq30) (zrk HO551.out) zq52) hk (fun _ h => h.2)) (fun _ h => h.1)); replace HK := zA (KeepBut.trans zq34 hk (.inl rfl)); replace HB := zA (hb); replace HI0 := zA (hi); clear hb hk hi; have hn34 := zn NB535_0; have hz35 := zc4 BK535.out))
    refine bodyPost_ret (results_cell_row rfl _ _ gb535 76 #[.int .i64 4, .int .i64 0, .string t552, .slice none 0 0] (0, 0) _ rfl (zbp BK535.out) Try.underlying76 rfl (by kernel_rfl)) rfl ?_
    exact ⟨_, zq1, zq7, zq30, zq37, zq34⟩
   have c27b0 : (t536 == 3) = false := beq_eq_false_iff_ne.mpr c27
   have c27b1 : (t536 != 3) = true := bne_iff_ne.mpr c27
   go_upto_region 9 with fail
   replace H := zP H; rcases H with ⟨c37, H⟩ | ⟨c37, H⟩
   ·have c37b0 : (t536 == 4) = true := beq_iff_eq.mpr c37
    have c37b1 : (t536 != 4) = false := bne_eq_false_iff_eq.mpr c37
    clear c37
    go_upto_region 10 with fail
    replace H := zB H; obtain ⟨⟨t555, t558, t559⟩, A39, H⟩ := H
    try dsimp only at H
    obtain ⟨rfl, rfl, rfl, rfl, rfl, rfl⟩ := zt6 H
    go_wp2_with (first | ((with_reducible refine zg180 rfl ?_); refine zl180 (some 24) #[.pointer (some ⟨g, 0, none⟩)] ?_; (with_reducible refine (spec_l2Draw.calls kj12 g s0_0 t537 t538 t555 t558 t559 w0 _ ?side1 ?side2 A39.out).mono ?_); (case side1 => exact zq30); (case side2 => exact zq37); rintro e w40 ⟨v556, rfl, ho0, hi, hb, hk⟩; refine ⟨_, rfl, ?_⟩; replace BK535 := zA (zkb hk BK535.out NB535_0.out); have HO557 := zA (Kd.R_lower ho0 (keep_size (w := w) (g := g) (row := none) zq34)); replace HK := zA (KeepBut.trans zq34 hk (.inl rfl)); replace HB := zA (hb); replace HI0 := zA (hi); clear hb hk hi ho0; obtain ⟨Ao41, co41, eo41⟩ := Kd.R_slice HO557.out; subst eo41; have hn42 := zn NB535_0; have hz43 := zc4 BK535.out))
    refine bodyPost_ret (results_cell_row rfl _ _ gb535 76 #[.int .i64 6, .int .i64 0, .string (⟨#[]⟩ : ByteArray), .slice Ao41 t555.length co41] (0, 0) _ rfl (zbp BK535.out) Try.underlying76 rfl (by kernel_rfl)) rfl ?_
    exact ⟨_, zq1, (by (with_reducible repeat (first | apply Kd.R_alloc | apply Kd.R_drewN | apply Kd.R_drew)); exact Kd.R_mono (Kd.R_far (p := ⟨gb535, 3, none⟩) (Kd.R_far (p := ⟨gb535, 2, none⟩) (Kd.R_far (p := ⟨gb535, 1, none⟩) (Kd.R_far (p := ⟨gb535, 0, none⟩) (Kd.R_types HO557.out BK535.out zq52) (fun _ hk => hk.2) (.int .i64 6)) (fun _ hk => hk.2) (.int .i64 0)) (fun _ hk => hk.2) (.string (⟨#[]⟩ : ByteArray))) (fun _ hk => hk.2) (.slice Ao41 t555.length co41)) (fun _ hk => trivial)), zq30, zq37, zq34⟩
   have c37b0 : (t536 == 4) = false := beq_eq_false_iff_ne.mpr c37
   have c37b1 : (t536 != 4) = true := bne_iff_ne.mpr c37
   go_upto_region 11 with fail
   obtain ⟨y560, hy560⟩ : ∃ y_ : List Int, y_ = (([128, 130] : List Int)) := ⟨_, rfl⟩
   rw [← hy560] at H
   have Ny560 := zA hy560
   clear hy560
   replace H := zB H; obtain ⟨⟨t563, t564, t565⟩, A45, H⟩ := H
   try dsimp only at H
   obtain ⟨rfl, rfl, rfl, rfl, rfl, rfl⟩ := zt6 H
   go_wp2_with (first | ((with_reducible refine gate_dst (N := 27) rfl ?_); refine Kd.R_lit (Kd.int .i64) _ 3 ?hg (N := 27) ?hd (xs := ([128, 130] : List Int)) (inner := [.int .i64 128, .int .i64 130]) (ok := fun _ => True) (okp := fun _ => True) ?hr ?hp (fun _ hk => hk) trivial (Below.refl _ _) (Nat.le_refl _) zq219 ?_; (case hd => rfl); (case hg => rfl); (case hr => exact zgs); (case hp => exact (Reps.one (show Kd.M (Kd.int .i64) _ _ _ 128 [.int .i64 128] from rfl) (Reps.one (show Kd.M (Kd.int .i64) _ _ _ 130 [.int .i64 130] from rfl) (Reps.none _ _)))); intro v561 w46 ho47 hb hg_ hnew_; clear hg_ hnew_; (first | rw [← Ny560.out] at ho47 | (simp only [Int.reduceToNat] at ho47; rw [← Ny560.out] at ho47)); have HO562 := zA (Kd.R_lower ho47 (keep_size (w := w) (g := g) (row := none) zq34)); replace BK535 := zA (zbb BK535.out hb); replace HK := zA (KeepBut.trans zq34 (KeepBut.of_below hb g none) (.inl rfl)); replace HB := zA (below_step zq37 hb); replace HI0 := zA (IsS170.below zq30 hb); clear hb ho47; obtain ⟨Ao48, co48, eo48⟩ := Kd.R_slice HO562.out; subst eo48) | ((with_reducible refine zg140 rfl ?_); refine zl140 (some 28) #[.pointer (some ⟨g, 0, none⟩), .slice Ao48 y560.length co48] ?_; (with_reducible refine (spec_l1Int.calls g s0_0 t537 t538 _ _ y560 t563 t564 t565 w0 _ ?side1 ?side2 ?side3 ?side4 ?side5 A45.out).mono ?_); (case side1 => exact zq30); (case side2 => exact zq37); (case side3 => exact (zck (Kd.R_reads' HO562.out).2.2)); (case side4 => exact (Kd.R_reads' HO562.out).2.1); (case side5 => exact far_slice (IsS170.own_ne HI0.out HO562.out zq52)); rintro e w49 ⟨rfl, hi, hb, hk⟩; refine ⟨_, rfl, ?_⟩; replace BK535 := zA (zkb hk BK535.out NB535_0.out); replace HO562 := zA (Kd.R_mono (Kd.R_keep (IsS170.apart (show IsS170 w0 _ g s0_0 t537 t538 from zq30) (zrk HO562.out) zq52) hk (fun _ h => h.2)) (fun _ h => h.1)); replace HK := zA (KeepBut.trans zq34 hk (.inl rfl)); replace HB := zA (hb); replace HI0 := zA (hi); clear hb hk hi; have hn50 := zn NB535_0; have hz51 := zc4 BK535.out))
   refine bodyPost_ret (results_cell_row rfl _ _ gb535 76 #[.int .i64 t563, .int .i64 0, .string (⟨#[]⟩ : ByteArray), .slice none 0 0] (0, 0) _ rfl (zbp BK535.out) Try.underlying76 rfl (by kernel_rfl)) rfl ?_
   exact ⟨_, zq1, zq7, zq30, zq37, zq34⟩

end Go.Proofs.Ytkcgghgkmgbphaa.PFnMsgs
