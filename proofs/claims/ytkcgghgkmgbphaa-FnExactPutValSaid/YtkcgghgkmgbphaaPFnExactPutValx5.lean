-- WRITTEN BY a turned copy of the kit's printer (wip/patch_print.py), for this claim
import Derived.Test.YtkcgghgkmgbphaaPFnExactPutValx0
import Derived.Test.YtkcgghgkmgbphaaPFnExactPutValx4
namespace Go.Proofs.Ytkcgghgkmgbphaa.PFnExactPutVal
open Go.RowKit Go.Proofs.YtkcgghgkmgbphaaW.PrintWords Go.Proofs.YtkcgghgkmgbphaaW.PrintLast Go.Proofs.YtkcgghgkmgbphaaW.PrintMore
attribute [local go_sem] max2_int min2_int max_two min_two max_three min_three max_four min_four   -- for this text's walks alone
set_option linter.unusedVariables false
set_option linter.unusedSimpArgs false

attribute [local go_sem] cell_setCell_m
/-! ### impl_OidOk: function 123 -/
def impl_OidOk.l0 : Nat → List Int → List Int → Int → Int → Option (Bool)
 | 0, _, _, _, _ => none
 | k + 1, x0, x5, x6, x7 => if x7 < x6 then (if 0 ≤ x7 then (if x7 < (x5.length : Int) then ((impl_in.f (rd x5 x7) 0 100000).bind fun t227 => (if t227 = true then (impl_OidOk.l0 k x0 x5 x6 (wrap64 (x7 + 1))) else (some false))) else (none)) else (none)) else ((impl_in.f (x0.length : Int) 1 10).bind fun t228 => (some t228))
def impl_OidOk.f (k : Nat) (l0 : List Int) : Option (Bool) := impl_OidOk.l0 k l0 l0 (l0.length : Int) 0
theorem impl_OidOk.mono_l : ∀ k, (∀ y0 y1 y2 y3, LeO (impl_OidOk.l0 k y0 y1 y2 y3) (impl_OidOk.l0 (k + 1) y0 y1 y2 y3))
 | 0 => fun _ _ _ _ r h => by simp [impl_OidOk.l0] at h
 | k + 1 => by
  have ih0 := impl_OidOk.mono_l k
  ·intro y0 y1 y2 y3
   unfold impl_OidOk.l0
   exact zR
theorem impl_OidOk.mono : ∀ a0 k, LeO (impl_OidOk.f k a0) (impl_OidOk.f (k + 1) a0) := by
 intro a0 k
 have ih0 := impl_OidOk.mono_l k
 unfold impl_OidOk.f
 exact zR
set_option maxHeartbeats 8000000 in
set_option maxRecDepth 100000 in
theorem impl_OidOk.calls (k : Nat) (A0 : Option Addr) (c0 : Nat) (l0 : List Int) (r : Bool) (w : World) (hr0 : Kd.C (Kd.int .i64) w A0 l0.length l0) (hc0 : l0.length ≤ c0) (h : impl_OidOk.f k l0 = some r) :
  Calls Try.prog 123 #[.slice A0 l0.length c0] w fun e w' => e = .returned (.bool r) ∧ Drawn0 w w' := by
 have HR0 := zA hr0
 have HC0 := zA hc0
 clear hr0 hc0
 unfold impl_OidOk.f at h
 have H := h
 clear h
 have HC2 := zA H
 clear H
 go_enter Try.func123, Try.ntmps123
 go_upto_region 0 with (fail)
 have H := HC2.out
 clear HC2
 have HC3 := zA H
 clear H
 go_upto_region 1 with (fail)
 have H := HC3.out
 clear HC3
 have H' := zA H
 clear H
 go_wp2
 go_loopg [7] k (fun kq v7 w' => ∃ (x7_1 : Int), v7 = .int .i64 x7_1 ∧ Aside0 (impl_OidOk.l0 kq l0 l0 (l0.length : Int) x7_1 = some r) ∧ Aside0 (kq ≤ k) ∧ Drawn0 w w')
 case atStart => exact ⟨(0), zq8, H', ⟨Nat.le_refl _⟩, zq14⟩
 case round =>
  clear H'
  try clear c1
  try clear p2
  obtain ⟨x7_1, rfl, HA, HK1, ⟨m1, rfl⟩⟩ := hrel
  cases gk with
  | zero => exact absurd HA.out (by simp [impl_OidOk.l0])
  | succ k1 =>
   have H := HA.out
   clear HA
   simp only [impl_OidOk.l0] at H
   have HC4 := zA H
   clear H
   go_upto_region 2 with (fail)
   have H := HC4.out
   clear HC4
   by_cases c5 : x7_1 < (l0.length : Int)
   ·rw [if_pos c5] at H
    have c5b0 : decide (x7_1 < (l0.length : Int)) = true := decide_eq_true c5
    clear c5
    have HC6 := zA H
    clear H
    go_upto_region 3 with (fail)
    have H := HC6.out
    clear HC6
    obtain ⟨c7, H⟩ := zN H
    have c7b0 : decide (0 ≤ x7_1) = true := decide_eq_true c7
    clear c7
    obtain ⟨c8, H⟩ := zN H
    have c8b0 : decide (x7_1 < (l0.length : Int)) = true := decide_eq_true c8
    clear c8
    have HC9 := zA H
    clear H
    have p226 : 0 ≤ (x7_1 : Int) := of_decide_eq_true zq9
    have q226 : x7_1 < (l0.length : Int) := of_decide_eq_true zq9
    obtain ⟨ad226, e226, hx226_0⟩ := Kd.at_int HR0.out x7_1 p226 q226
    cases e226
    replace p226 := eq_true p226
    replace q226 := eq_true q226
    go_upto_region 4 with (fail)
    have H := HC9.out
    clear HC9
    obtain ⟨t227, A10, H⟩ := zB H
    try dsimp only at H
    by_cases c11 : t227 = true
    ·subst c11
     rw [if_pos rfl] at H
     have HC12 := zA H
     clear H
     go_upto_region 6 with (first | ((with_reducible refine gate_callee (f := 122) rfl ?_); refine goesL_ (some 12) rfl rfl Try.func122 (by kernel_rfl) rfl #[.int .i64 (rd l0 x7_1), .int .i64 0, .int .i64 100000] rfl zq1 ?_; (with_reducible refine (impl_in.calls (rd l0 x7_1) 0 100000 true _ A10.out).mono ?_); rintro e w' ⟨rfl, ⟨nd, rfl⟩⟩; refine ⟨_, rfl, ?_⟩))
     (try simp only [Act.put, List.setIfInBounds_toArray, List.set_cons_zero, List.set_cons_succ])
     have H := HC12.out
     clear HC12
     have H' := zA H
     clear H
     go_wp2
     go_roundg k1
     case measure => have := HK1.out; omega
     case rel => exact ⟨(wrap64 (x7_1 + 1)), zq8, H', ⟨zq49⟩, zq14⟩
    ·replace c11 := Bool.eq_false_iff.mpr c11
     subst c11
     rw [if_neg zF] at H
     have HC13 := zA H
     clear H
     go_upto_region 5 with (first | ((with_reducible refine gate_callee (f := 122) rfl ?_); refine goesL_ (some 12) rfl rfl Try.func122 (by kernel_rfl) rfl #[.int .i64 (rd l0 x7_1), .int .i64 0, .int .i64 100000] rfl zq1 ?_; (with_reducible refine (impl_in.calls (rd l0 x7_1) 0 100000 false _ A10.out).mono ?_); rintro e w' ⟨rfl, ⟨nd, rfl⟩⟩; refine ⟨_, rfl, ?_⟩))
     (try simp only [Act.put, List.setIfInBounds_toArray, List.set_cons_zero, List.set_cons_succ])
     have H := HC13.out
     clear HC13
     obtain rfl := Option.some.inj H
     go_wp2
     go_ret
     exact ⟨zq8, zq14⟩
   ·rw [if_neg c5] at H
    have c5b0 : decide (x7_1 < (l0.length : Int)) = false := decide_eq_false c5
    clear c5
    have HC14 := zA H
    clear H
    go_upto_region 7 with (fail)
    have H := HC14.out
    clear HC14
    obtain ⟨t228, A15, H⟩ := zB H
    try dsimp only at H
    obtain rfl := Option.some.inj H
    go_wp2_with (first | ((with_reducible refine gate_callee (f := 122) rfl ?_); refine goesL_ (some 17) rfl rfl Try.func122 (by kernel_rfl) rfl #[.int .i64 (l0.length : Int), .int .i64 1, .int .i64 10] rfl zq1 ?_; (with_reducible refine (impl_in.calls (l0.length : Int) 1 10 t228 _ A15.out).mono ?_); rintro e w' ⟨rfl, ⟨nd, rfl⟩⟩; refine ⟨_, rfl, ?_⟩))
    go_ret
    exact ⟨zq8, zq14⟩

/-! ### impl_isInt: function 124 -/
def impl_isInt.f (a0 : Int) : Option (Bool) := (impl_in.f a0 (-2147483648) 2147483647).bind fun t229 => (some t229)
set_option maxHeartbeats 8000000 in
set_option maxRecDepth 100000 in
theorem impl_isInt.calls (a0 : Int) (r : Bool) (w : World) (h : impl_isInt.f a0 = some r) :
  Calls Try.prog 124 #[.int .i64 a0] w fun e w' => e = .returned (.bool r) ∧ Drawn0 w w' := by
 unfold impl_isInt.f at h
 have H := h
 clear h
 have HC2 := zA H
 clear H
 go_enter Try.func124, Try.ntmps124
 go_upto_region 0 with (fail)
 have H := HC2.out
 clear HC2
 have HC3 := zA H
 clear H
 go_upto_region 1 with (fail)
 have H := HC3.out
 clear HC3
 obtain ⟨t229, A4, H⟩ := zB H
 try dsimp only at H
 obtain rfl := Option.some.inj H
 go_wp2_with (first | ((with_reducible refine gate_callee (f := 122) rfl ?_); refine goesL_ (some 4) rfl rfl Try.func122 (by kernel_rfl) rfl #[.int .i64 a0, .int .i64 (-2147483648), .int .i64 2147483647] rfl zq1 ?_; (with_reducible refine (impl_in.calls a0 (-2147483648) 2147483647 t229 _ A4.out).mono ?_); rintro e w' ⟨rfl, ⟨nd, rfl⟩⟩; refine ⟨_, rfl, ?_⟩))
 go_ret
 exact ⟨zq8, zq14⟩

/-! ### impl_ValOk: function 90 -/
def impl_ValOk.f (k : Nat) (a0_0 : Int) (a0_1 : Int) (a0_2 : ByteArray) (l0_3 : List Int) : Option (Bool) := if a0_0 = 2 then ((impl_isInt.f a0_1).bind fun t232 => (if t232 = true then ((impl_SameVal.f k a0_0 a0_1 a0_2 l0_3 a0_0 a0_1 (⟨#[]⟩ : ByteArray) ([] : List Int)).bind fun t233 => (some t233)) else (some false))) else (if a0_0 = 4 then (if (a0_2.size : Int) ≤ 20 then ((impl_SameVal.f k a0_0 a0_1 a0_2 l0_3 a0_0 0 a0_2 ([] : List Int)).bind fun t234 => (some t234)) else (some false)) else (if a0_0 = 6 then ((impl_OidOk.f k l0_3).bind fun t235 => (if t235 = true then ((impl_SameVal.f k a0_0 a0_1 a0_2 l0_3 a0_0 0 (⟨#[]⟩ : ByteArray) l0_3).bind fun t236 => (some t236)) else (some false))) else (if a0_0 = 5 then ((impl_SameVal.f k a0_0 a0_1 a0_2 l0_3 a0_0 0 (⟨#[]⟩ : ByteArray) ([] : List Int)).bind fun t237 => (some t237)) else (if a0_0 = 128 then ((impl_SameVal.f k a0_0 a0_1 a0_2 l0_3 a0_0 0 (⟨#[]⟩ : ByteArray) ([] : List Int)).bind fun t238 => (some t238)) else (if a0_0 = 130 then ((impl_SameVal.f k a0_0 a0_1 a0_2 l0_3 a0_0 0 (⟨#[]⟩ : ByteArray) ([] : List Int)).bind fun t239 => (some t239)) else (some false))))))
theorem impl_ValOk.mono : ∀ a0 a1 a2 a3 k, LeO (impl_ValOk.f k a0 a1 a2 a3) (impl_ValOk.f (k + 1) a0 a1 a2 a3) := by
 intro a0 a1 a2 a3 k
 unfold impl_ValOk.f
 have m0_ := @impl_OidOk.mono
 have m1_ := @impl_SameVal.mono
 exact zR
set_option maxHeartbeats 8000000 in
set_option maxRecDepth 100000 in
theorem impl_ValOk.calls (k : Nat) (a0_0 : Int) (a0_1 : Int) (a0_2 : ByteArray) (A0_3 : Option Addr) (c0_3 : Nat) (l0_3 : List Int) (r : Bool) (w : World) (hr0_3 : Kd.C (Kd.int .i64) w A0_3 l0_3.length l0_3) (hc0_3 : l0_3.length ≤ c0_3) (h : impl_ValOk.f k a0_0 a0_1 a0_2 l0_3 = some r) :
  Calls Try.prog 90 #[.agg #[.int .i64 a0_0, .int .i64 a0_1, .string a0_2, .slice A0_3 l0_3.length c0_3]] w fun e w' => e = .returned (.bool r) ∧ Below w.heap.size w w' := by
 have hu76 := Try.underlying76
 have HR0_3 := zA hr0_3
 have HC0_3 := zA hc0_3
 clear hr0_3 hc0_3
 have HB := zA (Below.refl w.heap.size w)
 unfold impl_ValOk.f at h
 have H := h
 clear h
 have HC2 := zA H
 clear H
 go_enter Try.func90, Try.ntmps90
 go_upto_region 0 with (fail)
 have H := HC2.out
 clear HC2
 have HC3 := zA H
 clear H
 go_upto_region 1 with (first | ((with_reducible refine gate_dst (N := 1) rfl ?_); refine box_event ?hg (N := 1) ?hd (cs := #[.int .i64 a0_0, .int .i64 a0_1, .string a0_2, .slice A0_3 l0_3.length c0_3]) (t := 76) ?hr ?_; (case hd => rfl); (case hg => rfl); (case hr => first | (go_simp; done) | (go_simp; rfl)); intro gb230 hg w4 hbox hb; have BK230 := zA (hbox); have GW230 := zA ((zq6 : w.heap.size ≤ gb230)); have GE230 := zA ((zq6 : w.heap.size ≤ gb230)); replace HB := zA (below_step zq0 hb); clear hb hbox hg))
 (try simp only [Act.put, List.setIfInBounds_toArray, List.set_cons_zero, List.set_cons_succ])
 have H := HC3.out
 clear HC3
 have HC5 := zA H
 clear H
 have hcz6_0 : w4.cell? ⟨gb230, 0, none⟩ = some (.int .i64 a0_0) := (blk_cell BK230.out 0).trans rfl
 have hcz6_1 : w4.cell? ⟨gb230, 1, none⟩ = some (.int .i64 a0_1) := (blk_cell BK230.out 1).trans rfl
 have hcz6_2 : w4.cell? ⟨gb230, 2, none⟩ = some (.string a0_2) := (blk_cell BK230.out 2).trans rfl
 have hcz6_3 : w4.cell? ⟨gb230, 3, none⟩ = some (.slice A0_3 l0_3.length c0_3) := (blk_cell BK230.out 3).trans rfl
 have hfz6_0 := blk_frozen BK230.out 0
 have hfz6_1 := blk_frozen BK230.out 1
 have hfz6_2 := blk_frozen BK230.out 2
 have hfz6_3 := blk_frozen BK230.out 3
 go_upto_region 2 with (first | ((with_reducible refine gate_dst (N := 3) rfl ?_); refine box_event ?hg (N := 3) ?hd (cs := #[.int .i64 0, .int .i64 0, .string (⟨#[]⟩ : ByteArray), .slice none 0 0]) (t := 76) ?hr ?_; (case hd => rfl); (case hg => rfl); (case hr => first | (go_simp; done) | (go_simp; rfl)); intro gb231 hg w7 hbox hb; have BK231 := zA (hbox); have GW231 := zA ((zq68 : w.heap.size ≤ gb231)); have GE231 := zA ((zq68 : w.heap.size ≤ gb231)); replace HB := zA (below_step zq46 hb); have NB230_231 := zA ((by rw [hg]; exact Nat.ne_of_lt (blk_lt (g := gb230) (o := .cells #[.int .i64 a0_0, .int .i64 a0_1, .string a0_2, .slice A0_3 l0_3.length c0_3] 76 (0, 0)) zq61) : gb230 ≠ gb231)); have NB231_230 := zA ((by rw [hg]; exact Nat.ne_of_gt (blk_lt (g := gb230) (o := .cells #[.int .i64 a0_0, .int .i64 a0_1, .string a0_2, .slice A0_3 l0_3.length c0_3] 76 (0, 0)) zq61) : gb231 ≠ gb230)); replace BK230 := zA (blk_below (g := gb230) (o := .cells #[.int .i64 a0_0, .int .i64 a0_1, .string a0_2, .slice A0_3 l0_3.length c0_3] 76 (0, 0)) zq61 hb); clear hb hbox hg; have hnb8 := NB231_230.out; have hnc8 := NB230_231.out; have hcz9_0 : w7.cell? ⟨gb231, 0, none⟩ = some (.int .i64 0) := (blk_cell BK231.out 0).trans rfl; have hcz9_1 : w7.cell? ⟨gb231, 1, none⟩ = some (.int .i64 0) := (blk_cell BK231.out 1).trans rfl; have hcz9_2 : w7.cell? ⟨gb231, 2, none⟩ = some (.string (⟨#[]⟩ : ByteArray)) := (blk_cell BK231.out 2).trans rfl; have hcz9_3 : w7.cell? ⟨gb231, 3, none⟩ = some (.slice none 0 0) := (blk_cell BK231.out 3).trans rfl; have hfz9_0 := blk_frozen BK231.out 0; have hfz9_1 := blk_frozen BK231.out 1; have hfz9_2 := blk_frozen BK231.out 2; have hfz9_3 := blk_frozen BK231.out 3))
 (try simp only [Act.put, List.setIfInBounds_toArray, List.set_cons_zero, List.set_cons_succ])
 have H := HC5.out
 clear HC5
 have HC10 := zA H
 clear H
 go_upto_region 3 with (fail)
 have H := HC10.out
 clear HC10
 have HC11 := zA H
 clear H
 have hnb12 := NB230_231.out
 have hnc12 := NB231_230.out
 have hcz13_0 : w7.cell? ⟨gb230, 0, none⟩ = some (.int .i64 a0_0) := (blk_cell BK230.out 0).trans rfl
 have hcz13_1 : w7.cell? ⟨gb230, 1, none⟩ = some (.int .i64 a0_1) := (blk_cell BK230.out 1).trans rfl
 have hcz13_2 : w7.cell? ⟨gb230, 2, none⟩ = some (.string a0_2) := (blk_cell BK230.out 2).trans rfl
 have hcz13_3 : w7.cell? ⟨gb230, 3, none⟩ = some (.slice A0_3 l0_3.length c0_3) := (blk_cell BK230.out 3).trans rfl
 have hfz13_0 := blk_frozen BK230.out 0
 have hfz13_1 := blk_frozen BK230.out 1
 have hfz13_2 := blk_frozen BK230.out 2
 have hfz13_3 := blk_frozen BK230.out 3
 go_upto_region 5 with (fail)
 have H := HC11.out
 clear HC11
 by_cases c14 : a0_0 = 2
 ·rw [if_pos c14] at H
  have c14b0 : (a0_0 == 2) = true := beq_iff_eq.mpr c14
  have c14b1 : (a0_0 != 2) = false := bne_eq_false_iff_eq.mpr c14
  clear c14
  have HC15 := zA H
  clear H
  go_upto_region 6 with (fail)
  have H := HC15.out
  clear HC15
  have HC16 := zA H
  clear H
  have hnb17 := NB230_231.out
  have hnc17 := NB231_230.out
  have hcz18_0 : w7.cell? ⟨gb230, 0, none⟩ = some (.int .i64 a0_0) := (blk_cell BK230.out 0).trans rfl
  have hcz18_1 : w7.cell? ⟨gb230, 1, none⟩ = some (.int .i64 a0_1) := (blk_cell BK230.out 1).trans rfl
  have hcz18_2 : w7.cell? ⟨gb230, 2, none⟩ = some (.string a0_2) := (blk_cell BK230.out 2).trans rfl
  have hcz18_3 : w7.cell? ⟨gb230, 3, none⟩ = some (.slice A0_3 l0_3.length c0_3) := (blk_cell BK230.out 3).trans rfl
  have hfz18_0 := blk_frozen BK230.out 0
  have hfz18_1 := blk_frozen BK230.out 1
  have hfz18_2 := blk_frozen BK230.out 2
  have hfz18_3 := blk_frozen BK230.out 3
  have hcz19_0 : w7.cell? ⟨gb231, 0, none⟩ = some (.int .i64 0) := (blk_cell BK231.out 0).trans rfl
  have hcz19_1 : w7.cell? ⟨gb231, 1, none⟩ = some (.int .i64 0) := (blk_cell BK231.out 1).trans rfl
  have hcz19_2 : w7.cell? ⟨gb231, 2, none⟩ = some (.string (⟨#[]⟩ : ByteArray)) := (blk_cell BK231.out 2).trans rfl
  have hcz19_3 : w7.cell? ⟨gb231, 3, none⟩ = some (.slice none 0 0) := (blk_cell BK231.out 3).trans rfl
  have hfz19_0 := blk_frozen BK231.out 0
  have hfz19_1 := blk_frozen BK231.out 1
  have hfz19_2 := blk_frozen BK231.out 2
  have hfz19_3 := blk_frozen BK231.out 3
  go_upto_region 7 with (fail)
  have H := HC16.out
  clear HC16
  obtain ⟨t232, A20, H⟩ := zB H
  try dsimp only at H
  have HC21 := zA H
  clear H
  have hnb22 := NB230_231.out
  have hnc22 := NB231_230.out
  have hcz23_0 : w7.cell? ⟨gb230, 0, none⟩ = some (.int .i64 a0_0) := (blk_cell BK230.out 0).trans rfl
  have hcz23_1 : w7.cell? ⟨gb230, 1, none⟩ = some (.int .i64 a0_1) := (blk_cell BK230.out 1).trans rfl
  have hcz23_2 : w7.cell? ⟨gb230, 2, none⟩ = some (.string a0_2) := (blk_cell BK230.out 2).trans rfl
  have hcz23_3 : w7.cell? ⟨gb230, 3, none⟩ = some (.slice A0_3 l0_3.length c0_3) := (blk_cell BK230.out 3).trans rfl
  have hfz23_0 := blk_frozen BK230.out 0
  have hfz23_1 := blk_frozen BK230.out 1
  have hfz23_2 := blk_frozen BK230.out 2
  have hfz23_3 := blk_frozen BK230.out 3
  go_upto_region 17 with (first | ((with_reducible refine gate_callee (f := 124) rfl ?_); refine goesL_ (some 17) rfl rfl Try.func124 (by kernel_rfl) rfl #[.int .i64 a0_1] rfl zq1 ?_; (with_reducible refine (impl_isInt.calls a0_1 t232 _ A20.out).mono ?_); rintro e w' ⟨rfl, ⟨nd, rfl⟩⟩; refine ⟨_, rfl, ?_⟩))
  (try simp only [Act.put, List.setIfInBounds_toArray, List.set_cons_zero, List.set_cons_succ])
  have H := HC21.out
  clear HC21
  by_cases c24 : t232 = true
  ·subst c24
   rw [if_pos rfl] at H
   obtain ⟨t233, A25, H⟩ := zB H
   try dsimp only at H
   obtain rfl := Option.some.inj H
   have hnb26 := NB230_231.out
   have hnc26 := NB231_230.out
   have hcz27_0 : w7.cell? ⟨gb230, 0, none⟩ = some (.int .i64 a0_0) := (blk_cell BK230.out 0).trans rfl
   have hcz27_1 : w7.cell? ⟨gb230, 1, none⟩ = some (.int .i64 a0_1) := (blk_cell BK230.out 1).trans rfl
   have hcz27_2 : w7.cell? ⟨gb230, 2, none⟩ = some (.string a0_2) := (blk_cell BK230.out 2).trans rfl
   have hcz27_3 : w7.cell? ⟨gb230, 3, none⟩ = some (.slice A0_3 l0_3.length c0_3) := (blk_cell BK230.out 3).trans rfl
   have hfz27_0 := blk_frozen BK230.out 0
   have hfz27_1 := blk_frozen BK230.out 1
   have hfz27_2 := blk_frozen BK230.out 2
   have hfz27_3 := blk_frozen BK230.out 3
   have hcz28_0 : w7.cell? ⟨gb231, 0, none⟩ = some (.int .i64 0) := (blk_cell BK231.out 0).trans rfl
   have hcz28_1 : w7.cell? ⟨gb231, 1, none⟩ = some (.int .i64 0) := (blk_cell BK231.out 1).trans rfl
   have hcz28_2 : w7.cell? ⟨gb231, 2, none⟩ = some (.string (⟨#[]⟩ : ByteArray)) := (blk_cell BK231.out 2).trans rfl
   have hcz28_3 : w7.cell? ⟨gb231, 3, none⟩ = some (.slice none 0 0) := (blk_cell BK231.out 3).trans rfl
   have hfz28_0 := blk_frozen BK231.out 0
   have hfz28_1 := blk_frozen BK231.out 1
   have hfz28_2 := blk_frozen BK231.out 2
   have hfz28_3 := blk_frozen BK231.out 3
   go_wp2_with (first | (go_at_call 93; (refine (impl_SameVal.calls k a0_0 a0_1 a0_2 _ _ l0_3 a0_0 a0_1 (⟨#[]⟩ : ByteArray) _ _ ([] : List Int) t233 _ ?side1 ?side2 ?side3 ?side4 A25.out).mono ?_); (case side1 => exact Kd.C_below HR0_3.out zq3); (case side2 => exact HC0_3.out); (case side3 => exact Kd.C_nil _ _); (case side4 => exact Nat.le_refl _); rintro e w29 ⟨rfl, hb⟩; replace BK230 := zA (blk_below (g := gb230) (o := .cells #[.int .i64 a0_0, .int .i64 a0_1, .string a0_2, .slice A0_3 l0_3.length c0_3] 76 (0, 0)) zq16 hb); replace BK231 := zA (blk_below (g := gb231) (o := .cells #[.int .i64 a0_0, .int .i64 a0_1, .string (⟨#[]⟩ : ByteArray), .slice none 0 0] 76 (0, 0)) (by (with_reducible repeat (first | refine blk_drewN ?_ _ | refine blk_drew ?_ | refine blk_alloc ?_ _)); refine blk_put (cs := #[.int .i64 a0_0, .int .i64 0, .string (⟨#[]⟩ : ByteArray), .slice none 0 0]) ?_ 1 _ rfl; (with_reducible repeat (first | refine blk_drewN ?_ _ | refine blk_drew ?_ | refine blk_alloc ?_ _)); refine blk_put (cs := #[.int .i64 a0_0, .int .i64 0, .string (⟨#[]⟩ : ByteArray), .slice none 0 0]) ?_ 3 _ rfl; (with_reducible repeat (first | refine blk_drewN ?_ _ | refine blk_drew ?_ | refine blk_alloc ?_ _)); refine blk_put (cs := #[.int .i64 a0_0, .int .i64 0, .string (⟨#[]⟩ : ByteArray), .slice none 0 0]) ?_ 2 _ rfl; (with_reducible repeat (first | refine blk_drewN ?_ _ | refine blk_drew ?_ | refine blk_alloc ?_ _)); refine blk_put (cs := #[.int .i64 a0_0, .int .i64 0, .string (⟨#[]⟩ : ByteArray), .slice none 0 0]) ?_ 1 _ rfl; (with_reducible repeat (first | refine blk_drewN ?_ _ | refine blk_drew ?_ | refine blk_alloc ?_ _)); refine blk_put (cs := #[.int .i64 0, .int .i64 0, .string (⟨#[]⟩ : ByteArray), .slice none 0 0]) ?_ 0 _ rfl; (with_reducible repeat (first | refine blk_drewN ?_ _ | refine blk_drew ?_ | refine blk_alloc ?_ _)); exact BK231.out) hb); replace HB := zA (below_step zq3 hb); clear hb))
   go_ret
   exact ⟨zq2, zq3⟩
  ·replace c24 := Bool.eq_false_iff.mpr c24
   subst c24
   rw [if_neg zF] at H
   obtain rfl := Option.some.inj H
   go_wp2
   go_ret
   exact ⟨zq2, zq3⟩
 ·rw [if_neg c14] at H
  have c14b0 : (a0_0 == 2) = false := beq_eq_false_iff_ne.mpr c14
  have c14b1 : (a0_0 != 2) = true := bne_iff_ne.mpr c14
  have HC30 := zA H
  clear H
  go_upto_region 8 with (fail)
  have H := HC30.out
  clear HC30
  by_cases c31 : a0_0 = 4
  ·rw [if_pos c31] at H
   have c31b0 : (a0_0 == 4) = true := beq_iff_eq.mpr c31
   have c31b1 : (a0_0 != 4) = false := bne_eq_false_iff_eq.mpr c31
   clear c31
   have HC32 := zA H
   clear H
   go_upto_region 9 with (fail)
   have H := HC32.out
   clear HC32
   have HC33 := zA H
   clear H
   have hnb34 := NB230_231.out
   have hnc34 := NB231_230.out
   have hcz35_0 : w7.cell? ⟨gb230, 0, none⟩ = some (.int .i64 a0_0) := (blk_cell BK230.out 0).trans rfl
   have hcz35_1 : w7.cell? ⟨gb230, 1, none⟩ = some (.int .i64 a0_1) := (blk_cell BK230.out 1).trans rfl
   have hcz35_2 : w7.cell? ⟨gb230, 2, none⟩ = some (.string a0_2) := (blk_cell BK230.out 2).trans rfl
   have hcz35_3 : w7.cell? ⟨gb230, 3, none⟩ = some (.slice A0_3 l0_3.length c0_3) := (blk_cell BK230.out 3).trans rfl
   have hfz35_0 := blk_frozen BK230.out 0
   have hfz35_1 := blk_frozen BK230.out 1
   have hfz35_2 := blk_frozen BK230.out 2
   have hfz35_3 := blk_frozen BK230.out 3
   have hcz36_0 : w7.cell? ⟨gb231, 0, none⟩ = some (.int .i64 0) := (blk_cell BK231.out 0).trans rfl
   have hcz36_1 : w7.cell? ⟨gb231, 1, none⟩ = some (.int .i64 0) := (blk_cell BK231.out 1).trans rfl
   have hcz36_2 : w7.cell? ⟨gb231, 2, none⟩ = some (.string (⟨#[]⟩ : ByteArray)) := (blk_cell BK231.out 2).trans rfl
   have hcz36_3 : w7.cell? ⟨gb231, 3, none⟩ = some (.slice none 0 0) := (blk_cell BK231.out 3).trans rfl
   have hfz36_0 := blk_frozen BK231.out 0
   have hfz36_1 := blk_frozen BK231.out 1
   have hfz36_2 := blk_frozen BK231.out 2
   have hfz36_3 := blk_frozen BK231.out 3
   go_upto_region 10 with (fail)
   have H := HC33.out
   clear HC33
   have HC37 := zA H
   clear H
   have hnb38 := NB230_231.out
   have hnc38 := NB231_230.out
   have hcz39_0 : w7.cell? ⟨gb230, 0, none⟩ = some (.int .i64 a0_0) := (blk_cell BK230.out 0).trans rfl
   have hcz39_1 : w7.cell? ⟨gb230, 1, none⟩ = some (.int .i64 a0_1) := (blk_cell BK230.out 1).trans rfl
   have hcz39_2 : w7.cell? ⟨gb230, 2, none⟩ = some (.string a0_2) := (blk_cell BK230.out 2).trans rfl
   have hcz39_3 : w7.cell? ⟨gb230, 3, none⟩ = some (.slice A0_3 l0_3.length c0_3) := (blk_cell BK230.out 3).trans rfl
   have hfz39_0 := blk_frozen BK230.out 0
   have hfz39_1 := blk_frozen BK230.out 1
   have hfz39_2 := blk_frozen BK230.out 2
   have hfz39_3 := blk_frozen BK230.out 3
   go_upto_region 17 with (fail)
   have H := HC37.out
   clear HC37
   by_cases c40 : (a0_2.size : Int) ≤ 20
   ·rw [if_pos c40] at H
    have c40b0 : decide ((a0_2.size : Int) ≤ 20) = true := decide_eq_true c40
    have c40b1 : decide (a0_2.size ≤ 20) = true := decide_eq_true zq57
    clear c40
    obtain ⟨t234, A41, H⟩ := zB H
    try dsimp only at H
    obtain rfl := Option.some.inj H
    have hnb42 := NB230_231.out
    have hnc42 := NB231_230.out
    have hcz43_0 : w7.cell? ⟨gb230, 0, none⟩ = some (.int .i64 a0_0) := (blk_cell BK230.out 0).trans rfl
    have hcz43_1 : w7.cell? ⟨gb230, 1, none⟩ = some (.int .i64 a0_1) := (blk_cell BK230.out 1).trans rfl
    have hcz43_2 : w7.cell? ⟨gb230, 2, none⟩ = some (.string a0_2) := (blk_cell BK230.out 2).trans rfl
    have hcz43_3 : w7.cell? ⟨gb230, 3, none⟩ = some (.slice A0_3 l0_3.length c0_3) := (blk_cell BK230.out 3).trans rfl
    have hfz43_0 := blk_frozen BK230.out 0
    have hfz43_1 := blk_frozen BK230.out 1
    have hfz43_2 := blk_frozen BK230.out 2
    have hfz43_3 := blk_frozen BK230.out 3
    have hcz44_0 : w7.cell? ⟨gb231, 0, none⟩ = some (.int .i64 0) := (blk_cell BK231.out 0).trans rfl
    have hcz44_1 : w7.cell? ⟨gb231, 1, none⟩ = some (.int .i64 0) := (blk_cell BK231.out 1).trans rfl
    have hcz44_2 : w7.cell? ⟨gb231, 2, none⟩ = some (.string (⟨#[]⟩ : ByteArray)) := (blk_cell BK231.out 2).trans rfl
    have hcz44_3 : w7.cell? ⟨gb231, 3, none⟩ = some (.slice none 0 0) := (blk_cell BK231.out 3).trans rfl
    have hfz44_0 := blk_frozen BK231.out 0
    have hfz44_1 := blk_frozen BK231.out 1
    have hfz44_2 := blk_frozen BK231.out 2
    have hfz44_3 := blk_frozen BK231.out 3
    go_wp2_with (first | (go_at_call 93; (refine (impl_SameVal.calls k a0_0 a0_1 a0_2 _ _ l0_3 a0_0 0 a0_2 _ _ ([] : List Int) t234 _ ?side1 ?side2 ?side3 ?side4 A41.out).mono ?_); (case side1 => exact Kd.C_below HR0_3.out zq3); (case side2 => exact HC0_3.out); (case side3 => exact Kd.C_nil _ _); (case side4 => exact Nat.le_refl _); rintro e w45 ⟨rfl, hb⟩; replace BK230 := zA (blk_below (g := gb230) (o := .cells #[.int .i64 a0_0, .int .i64 a0_1, .string a0_2, .slice A0_3 l0_3.length c0_3] 76 (0, 0)) zq16 hb); replace BK231 := zA (blk_below (g := gb231) (o := .cells #[.int .i64 a0_0, .int .i64 0, .string a0_2, .slice none 0 0] 76 (0, 0)) (by (with_reducible repeat (first | refine blk_drewN ?_ _ | refine blk_drew ?_ | refine blk_alloc ?_ _)); refine blk_put (cs := #[.int .i64 a0_0, .int .i64 0, .string (⟨#[]⟩ : ByteArray), .slice none 0 0]) ?_ 2 _ rfl; (with_reducible repeat (first | refine blk_drewN ?_ _ | refine blk_drew ?_ | refine blk_alloc ?_ _)); refine blk_put (cs := #[.int .i64 a0_0, .int .i64 0, .string (⟨#[]⟩ : ByteArray), .slice none 0 0]) ?_ 3 _ rfl; (with_reducible repeat (first | refine blk_drewN ?_ _ | refine blk_drew ?_ | refine blk_alloc ?_ _)); refine blk_put (cs := #[.int .i64 a0_0, .int .i64 0, .string (⟨#[]⟩ : ByteArray), .slice none 0 0]) ?_ 2 _ rfl; (with_reducible repeat (first | refine blk_drewN ?_ _ | refine blk_drew ?_ | refine blk_alloc ?_ _)); refine blk_put (cs := #[.int .i64 a0_0, .int .i64 0, .string (⟨#[]⟩ : ByteArray), .slice none 0 0]) ?_ 1 _ rfl; (with_reducible repeat (first | refine blk_drewN ?_ _ | refine blk_drew ?_ | refine blk_alloc ?_ _)); refine blk_put (cs := #[.int .i64 0, .int .i64 0, .string (⟨#[]⟩ : ByteArray), .slice none 0 0]) ?_ 0 _ rfl; (with_reducible repeat (first | refine blk_drewN ?_ _ | refine blk_drew ?_ | refine blk_alloc ?_ _)); exact BK231.out) hb); replace HB := zA (below_step zq3 hb); clear hb))
    go_ret
    exact ⟨zq2, zq3⟩
   ·rw [if_neg c40] at H
    have c40b0 : decide ((a0_2.size : Int) ≤ 20) = false := decide_eq_false c40
    have c40b1 : decide (a0_2.size ≤ 20) = false := decide_eq_false zq57
    clear c40
    obtain rfl := Option.some.inj H
    go_wp2
    go_ret
    exact ⟨zq2, zq3⟩
  ·rw [if_neg c31] at H
   have c31b0 : (a0_0 == 4) = false := beq_eq_false_iff_ne.mpr c31
   have c31b1 : (a0_0 != 4) = true := bne_iff_ne.mpr c31
   have HC46 := zA H
   clear H
   go_upto_region 11 with (fail)
   have H := HC46.out
   clear HC46
   by_cases c47 : a0_0 = 6
   ·rw [if_pos c47] at H
    have c47b0 : (a0_0 == 6) = true := beq_iff_eq.mpr c47
    have c47b1 : (a0_0 != 6) = false := bne_eq_false_iff_eq.mpr c47
    clear c47
    have HC48 := zA H
    clear H
    go_upto_region 12 with (fail)
    have H := HC48.out
    clear HC48
    have HC49 := zA H
    clear H
    have hnb50 := NB230_231.out
    have hnc50 := NB231_230.out
    have hcz51_0 : w7.cell? ⟨gb230, 0, none⟩ = some (.int .i64 a0_0) := (blk_cell BK230.out 0).trans rfl
    have hcz51_1 : w7.cell? ⟨gb230, 1, none⟩ = some (.int .i64 a0_1) := (blk_cell BK230.out 1).trans rfl
    have hcz51_2 : w7.cell? ⟨gb230, 2, none⟩ = some (.string a0_2) := (blk_cell BK230.out 2).trans rfl
    have hcz51_3 : w7.cell? ⟨gb230, 3, none⟩ = some (.slice A0_3 l0_3.length c0_3) := (blk_cell BK230.out 3).trans rfl
    have hfz51_0 := blk_frozen BK230.out 0
    have hfz51_1 := blk_frozen BK230.out 1
    have hfz51_2 := blk_frozen BK230.out 2
    have hfz51_3 := blk_frozen BK230.out 3
    have hcz52_0 : w7.cell? ⟨gb231, 0, none⟩ = some (.int .i64 0) := (blk_cell BK231.out 0).trans rfl
    have hcz52_1 : w7.cell? ⟨gb231, 1, none⟩ = some (.int .i64 0) := (blk_cell BK231.out 1).trans rfl
    have hcz52_2 : w7.cell? ⟨gb231, 2, none⟩ = some (.string (⟨#[]⟩ : ByteArray)) := (blk_cell BK231.out 2).trans rfl
    have hcz52_3 : w7.cell? ⟨gb231, 3, none⟩ = some (.slice none 0 0) := (blk_cell BK231.out 3).trans rfl
    have hfz52_0 := blk_frozen BK231.out 0
    have hfz52_1 := blk_frozen BK231.out 1
    have hfz52_2 := blk_frozen BK231.out 2
    have hfz52_3 := blk_frozen BK231.out 3
    go_upto_region 13 with (fail)
    have H := HC49.out
    clear HC49
    obtain ⟨t235, A53, H⟩ := zB H
    try dsimp only at H
    have HC54 := zA H
    clear H
    have hnb55 := NB230_231.out
    have hnc55 := NB231_230.out
    have hcz56_0 : w7.cell? ⟨gb230, 0, none⟩ = some (.int .i64 a0_0) := (blk_cell BK230.out 0).trans rfl
    have hcz56_1 : w7.cell? ⟨gb230, 1, none⟩ = some (.int .i64 a0_1) := (blk_cell BK230.out 1).trans rfl
    have hcz56_2 : w7.cell? ⟨gb230, 2, none⟩ = some (.string a0_2) := (blk_cell BK230.out 2).trans rfl
    have hcz56_3 : w7.cell? ⟨gb230, 3, none⟩ = some (.slice A0_3 l0_3.length c0_3) := (blk_cell BK230.out 3).trans rfl
    have hfz56_0 := blk_frozen BK230.out 0
    have hfz56_1 := blk_frozen BK230.out 1
    have hfz56_2 := blk_frozen BK230.out 2
    have hfz56_3 := blk_frozen BK230.out 3
    go_upto_region 17 with (first | ((with_reducible refine gate_callee (f := 123) rfl ?_); refine goesL_ (some 34) rfl rfl Try.func123 (by kernel_rfl) rfl #[.slice A0_3 l0_3.length c0_3] rfl zq1 ?_; (with_reducible refine (impl_OidOk.calls k _ _ l0_3 t235 _ ?side1 ?side2 A53.out).mono ?_); (case side1 => exact Kd.C_below HR0_3.out zq3); (case side2 => exact HC0_3.out); rintro e w' ⟨rfl, ⟨nd, rfl⟩⟩; refine ⟨_, rfl, ?_⟩))
    (try simp only [Act.put, List.setIfInBounds_toArray, List.set_cons_zero, List.set_cons_succ])
    have H := HC54.out
    clear HC54
    by_cases c57 : t235 = true
    ·subst c57
     rw [if_pos rfl] at H
     obtain ⟨t236, A58, H⟩ := zB H
     try dsimp only at H
     obtain rfl := Option.some.inj H
     have hnb59 := NB230_231.out
     have hnc59 := NB231_230.out
     have hcz60_0 : w7.cell? ⟨gb230, 0, none⟩ = some (.int .i64 a0_0) := (blk_cell BK230.out 0).trans rfl
     have hcz60_1 : w7.cell? ⟨gb230, 1, none⟩ = some (.int .i64 a0_1) := (blk_cell BK230.out 1).trans rfl
     have hcz60_2 : w7.cell? ⟨gb230, 2, none⟩ = some (.string a0_2) := (blk_cell BK230.out 2).trans rfl
     have hcz60_3 : w7.cell? ⟨gb230, 3, none⟩ = some (.slice A0_3 l0_3.length c0_3) := (blk_cell BK230.out 3).trans rfl
     have hfz60_0 := blk_frozen BK230.out 0
     have hfz60_1 := blk_frozen BK230.out 1
     have hfz60_2 := blk_frozen BK230.out 2
     have hfz60_3 := blk_frozen BK230.out 3
     have hcz61_0 : w7.cell? ⟨gb231, 0, none⟩ = some (.int .i64 0) := (blk_cell BK231.out 0).trans rfl
     have hcz61_1 : w7.cell? ⟨gb231, 1, none⟩ = some (.int .i64 0) := (blk_cell BK231.out 1).trans rfl
     have hcz61_2 : w7.cell? ⟨gb231, 2, none⟩ = some (.string (⟨#[]⟩ : ByteArray)) := (blk_cell BK231.out 2).trans rfl
     have hcz61_3 : w7.cell? ⟨gb231, 3, none⟩ = some (.slice none 0 0) := (blk_cell BK231.out 3).trans rfl
     have hfz61_0 := blk_frozen BK231.out 0
     have hfz61_1 := blk_frozen BK231.out 1
     have hfz61_2 := blk_frozen BK231.out 2
     have hfz61_3 := blk_frozen BK231.out 3
     go_wp2_with (first | (go_at_call 93; (with_reducible refine (impl_SameVal.calls k a0_0 a0_1 a0_2 _ _ l0_3 a0_0 0 (⟨#[]⟩ : ByteArray) _ _ l0_3 t236 _ ?side1 ?side2 ?side3 ?side4 A58.out).mono ?_); (case side1 => exact Kd.C_below HR0_3.out zq3); (case side2 => exact HC0_3.out); (case side3 => exact Kd.C_below HR0_3.out zq3); (case side4 => exact HC0_3.out); rintro e w62 ⟨rfl, hb⟩; replace BK230 := zA (blk_below (g := gb230) (o := .cells #[.int .i64 a0_0, .int .i64 a0_1, .string a0_2, .slice A0_3 l0_3.length c0_3] 76 (0, 0)) zq16 hb); replace BK231 := zA (blk_below (g := gb231) (o := .cells #[.int .i64 a0_0, .int .i64 0, .string (⟨#[]⟩ : ByteArray), .slice A0_3 l0_3.length c0_3] 76 (0, 0)) (by (with_reducible repeat (first | refine blk_drewN ?_ _ | refine blk_drew ?_ | refine blk_alloc ?_ _)); refine blk_put (cs := #[.int .i64 a0_0, .int .i64 0, .string (⟨#[]⟩ : ByteArray), .slice none 0 0]) ?_ 3 _ rfl; (with_reducible repeat (first | refine blk_drewN ?_ _ | refine blk_drew ?_ | refine blk_alloc ?_ _)); refine blk_put (cs := #[.int .i64 a0_0, .int .i64 0, .string (⟨#[]⟩ : ByteArray), .slice none 0 0]) ?_ 3 _ rfl; (with_reducible repeat (first | refine blk_drewN ?_ _ | refine blk_drew ?_ | refine blk_alloc ?_ _)); refine blk_put (cs := #[.int .i64 a0_0, .int .i64 0, .string (⟨#[]⟩ : ByteArray), .slice none 0 0]) ?_ 2 _ rfl; (with_reducible repeat (first | refine blk_drewN ?_ _ | refine blk_drew ?_ | refine blk_alloc ?_ _)); refine blk_put (cs := #[.int .i64 a0_0, .int .i64 0, .string (⟨#[]⟩ : ByteArray), .slice none 0 0]) ?_ 1 _ rfl; (with_reducible repeat (first | refine blk_drewN ?_ _ | refine blk_drew ?_ | refine blk_alloc ?_ _)); refine blk_put (cs := #[.int .i64 0, .int .i64 0, .string (⟨#[]⟩ : ByteArray), .slice none 0 0]) ?_ 0 _ rfl; (with_reducible repeat (first | refine blk_drewN ?_ _ | refine blk_drew ?_ | refine blk_alloc ?_ _)); exact BK231.out) hb); replace HB := zA (below_step zq3 hb); clear hb))
     go_ret
     exact ⟨zq2, zq3⟩
    ·replace c57 := Bool.eq_false_iff.mpr c57
     subst c57
     rw [if_neg zF] at H
     obtain rfl := Option.some.inj H
     go_wp2
     go_ret
     exact ⟨zq2, zq3⟩
   ·rw [if_neg c47] at H
    have c47b0 : (a0_0 == 6) = false := beq_eq_false_iff_ne.mpr c47
    have c47b1 : (a0_0 != 6) = true := bne_iff_ne.mpr c47
    have HC63 := zA H
    clear H
    go_upto_region 14 with (fail)
    have H := HC63.out
    clear HC63
    by_cases c64 : a0_0 = 5
    ·rw [if_pos c64] at H
     have c64b0 : (a0_0 == 5) = true := beq_iff_eq.mpr c64
     have c64b1 : (a0_0 != 5) = false := bne_eq_false_iff_eq.mpr c64
     clear c64
     have HC65 := zA H
     clear H
     go_upto_region 17 with (fail)
     have H := HC65.out
     clear HC65
     obtain ⟨t237, A66, H⟩ := zB H
     try dsimp only at H
     obtain rfl := Option.some.inj H
     have hnb67 := NB230_231.out
     have hnc67 := NB231_230.out
     have hcz68_0 : w7.cell? ⟨gb230, 0, none⟩ = some (.int .i64 a0_0) := (blk_cell BK230.out 0).trans rfl
     have hcz68_1 : w7.cell? ⟨gb230, 1, none⟩ = some (.int .i64 a0_1) := (blk_cell BK230.out 1).trans rfl
     have hcz68_2 : w7.cell? ⟨gb230, 2, none⟩ = some (.string a0_2) := (blk_cell BK230.out 2).trans rfl
     have hcz68_3 : w7.cell? ⟨gb230, 3, none⟩ = some (.slice A0_3 l0_3.length c0_3) := (blk_cell BK230.out 3).trans rfl
     have hfz68_0 := blk_frozen BK230.out 0
     have hfz68_1 := blk_frozen BK230.out 1
     have hfz68_2 := blk_frozen BK230.out 2
     have hfz68_3 := blk_frozen BK230.out 3
     have hcz69_0 : w7.cell? ⟨gb231, 0, none⟩ = some (.int .i64 0) := (blk_cell BK231.out 0).trans rfl
     have hcz69_1 : w7.cell? ⟨gb231, 1, none⟩ = some (.int .i64 0) := (blk_cell BK231.out 1).trans rfl
     have hcz69_2 : w7.cell? ⟨gb231, 2, none⟩ = some (.string (⟨#[]⟩ : ByteArray)) := (blk_cell BK231.out 2).trans rfl
     have hcz69_3 : w7.cell? ⟨gb231, 3, none⟩ = some (.slice none 0 0) := (blk_cell BK231.out 3).trans rfl
     have hfz69_0 := blk_frozen BK231.out 0
     have hfz69_1 := blk_frozen BK231.out 1
     have hfz69_2 := blk_frozen BK231.out 2
     have hfz69_3 := blk_frozen BK231.out 3
     go_wp2_with (first | (go_at_call 93; (refine (impl_SameVal.calls k a0_0 a0_1 a0_2 _ _ l0_3 a0_0 0 (⟨#[]⟩ : ByteArray) _ _ ([] : List Int) t237 _ ?side1 ?side2 ?side3 ?side4 A66.out).mono ?_); (case side1 => exact Kd.C_below HR0_3.out zq3); (case side2 => exact HC0_3.out); (case side3 => exact Kd.C_nil _ _); (case side4 => exact Nat.le_refl _); rintro e w70 ⟨rfl, hb⟩; replace BK230 := zA (blk_below (g := gb230) (o := .cells #[.int .i64 a0_0, .int .i64 a0_1, .string a0_2, .slice A0_3 l0_3.length c0_3] 76 (0, 0)) zq21 hb); replace BK231 := zA (blk_below (g := gb231) (o := .cells #[.int .i64 a0_0, .int .i64 0, .string (⟨#[]⟩ : ByteArray), .slice none 0 0] 76 (0, 0)) zq15 hb); replace HB := zA (below_step zq3 hb); clear hb))
     go_ret
     exact ⟨zq2, zq3⟩
    ·rw [if_neg c64] at H
     have c64b0 : (a0_0 == 5) = false := beq_eq_false_iff_ne.mpr c64
     have c64b1 : (a0_0 != 5) = true := bne_iff_ne.mpr c64
     have HC71 := zA H
     clear H
     go_upto_region 15 with (fail)
     have H := HC71.out
     clear HC71
     by_cases c72 : a0_0 = 128
     ·rw [if_pos c72] at H
      have c72b0 : (a0_0 == 128) = true := beq_iff_eq.mpr c72
      have c72b1 : (a0_0 != 128) = false := bne_eq_false_iff_eq.mpr c72
      clear c72
      have HC73 := zA H
      clear H
      go_upto_region 17 with (fail)
      have H := HC73.out
      clear HC73
      obtain ⟨t238, A74, H⟩ := zB H
      try dsimp only at H
      obtain rfl := Option.some.inj H
      have hnb75 := NB230_231.out
      have hnc75 := NB231_230.out
      have hcz76_0 : w7.cell? ⟨gb230, 0, none⟩ = some (.int .i64 a0_0) := (blk_cell BK230.out 0).trans rfl
      have hcz76_1 : w7.cell? ⟨gb230, 1, none⟩ = some (.int .i64 a0_1) := (blk_cell BK230.out 1).trans rfl
      have hcz76_2 : w7.cell? ⟨gb230, 2, none⟩ = some (.string a0_2) := (blk_cell BK230.out 2).trans rfl
      have hcz76_3 : w7.cell? ⟨gb230, 3, none⟩ = some (.slice A0_3 l0_3.length c0_3) := (blk_cell BK230.out 3).trans rfl
      have hfz76_0 := blk_frozen BK230.out 0
      have hfz76_1 := blk_frozen BK230.out 1
      have hfz76_2 := blk_frozen BK230.out 2
      have hfz76_3 := blk_frozen BK230.out 3
      have hcz77_0 : w7.cell? ⟨gb231, 0, none⟩ = some (.int .i64 0) := (blk_cell BK231.out 0).trans rfl
      have hcz77_1 : w7.cell? ⟨gb231, 1, none⟩ = some (.int .i64 0) := (blk_cell BK231.out 1).trans rfl
      have hcz77_2 : w7.cell? ⟨gb231, 2, none⟩ = some (.string (⟨#[]⟩ : ByteArray)) := (blk_cell BK231.out 2).trans rfl
      have hcz77_3 : w7.cell? ⟨gb231, 3, none⟩ = some (.slice none 0 0) := (blk_cell BK231.out 3).trans rfl
      have hfz77_0 := blk_frozen BK231.out 0
      have hfz77_1 := blk_frozen BK231.out 1
      have hfz77_2 := blk_frozen BK231.out 2
      have hfz77_3 := blk_frozen BK231.out 3
      go_wp2_with (first | (go_at_call 93; (refine (impl_SameVal.calls k a0_0 a0_1 a0_2 _ _ l0_3 a0_0 0 (⟨#[]⟩ : ByteArray) _ _ ([] : List Int) t238 _ ?side1 ?side2 ?side3 ?side4 A74.out).mono ?_); (case side1 => exact Kd.C_below HR0_3.out zq3); (case side2 => exact HC0_3.out); (case side3 => exact Kd.C_nil _ _); (case side4 => exact Nat.le_refl _); rintro e w78 ⟨rfl, hb⟩; replace BK230 := zA (blk_below (g := gb230) (o := .cells #[.int .i64 a0_0, .int .i64 a0_1, .string a0_2, .slice A0_3 l0_3.length c0_3] 76 (0, 0)) zq21 hb); replace BK231 := zA (blk_below (g := gb231) (o := .cells #[.int .i64 a0_0, .int .i64 0, .string (⟨#[]⟩ : ByteArray), .slice none 0 0] 76 (0, 0)) zq15 hb); replace HB := zA (below_step zq3 hb); clear hb))
      go_ret
      exact ⟨zq2, zq3⟩
     ·rw [if_neg c72] at H
      have c72b0 : (a0_0 == 128) = false := beq_eq_false_iff_ne.mpr c72
      have c72b1 : (a0_0 != 128) = true := bne_iff_ne.mpr c72
      have HC79 := zA H
      clear H
      go_upto_region 16 with (fail)
      have H := HC79.out
      clear HC79
      by_cases c80 : a0_0 = 130
      ·rw [if_pos c80] at H
       have c80b0 : (a0_0 == 130) = true := beq_iff_eq.mpr c80
       have c80b1 : (a0_0 != 130) = false := bne_eq_false_iff_eq.mpr c80
       clear c80
       have HC81 := zA H
       clear H
       go_upto_region 17 with (fail)
       have H := HC81.out
       clear HC81
       obtain ⟨t239, A82, H⟩ := zB H
       try dsimp only at H
       obtain rfl := Option.some.inj H
       have hnb83 := NB230_231.out
       have hnc83 := NB231_230.out
       have hcz84_0 : w7.cell? ⟨gb230, 0, none⟩ = some (.int .i64 a0_0) := (blk_cell BK230.out 0).trans rfl
       have hcz84_1 : w7.cell? ⟨gb230, 1, none⟩ = some (.int .i64 a0_1) := (blk_cell BK230.out 1).trans rfl
       have hcz84_2 : w7.cell? ⟨gb230, 2, none⟩ = some (.string a0_2) := (blk_cell BK230.out 2).trans rfl
       have hcz84_3 : w7.cell? ⟨gb230, 3, none⟩ = some (.slice A0_3 l0_3.length c0_3) := (blk_cell BK230.out 3).trans rfl
       have hfz84_0 := blk_frozen BK230.out 0
       have hfz84_1 := blk_frozen BK230.out 1
       have hfz84_2 := blk_frozen BK230.out 2
       have hfz84_3 := blk_frozen BK230.out 3
       have hcz85_0 : w7.cell? ⟨gb231, 0, none⟩ = some (.int .i64 0) := (blk_cell BK231.out 0).trans rfl
       have hcz85_1 : w7.cell? ⟨gb231, 1, none⟩ = some (.int .i64 0) := (blk_cell BK231.out 1).trans rfl
       have hcz85_2 : w7.cell? ⟨gb231, 2, none⟩ = some (.string (⟨#[]⟩ : ByteArray)) := (blk_cell BK231.out 2).trans rfl
       have hcz85_3 : w7.cell? ⟨gb231, 3, none⟩ = some (.slice none 0 0) := (blk_cell BK231.out 3).trans rfl
       have hfz85_0 := blk_frozen BK231.out 0
       have hfz85_1 := blk_frozen BK231.out 1
       have hfz85_2 := blk_frozen BK231.out 2
       have hfz85_3 := blk_frozen BK231.out 3
       go_wp2_with (first | (go_at_call 93; (refine (impl_SameVal.calls k a0_0 a0_1 a0_2 _ _ l0_3 a0_0 0 (⟨#[]⟩ : ByteArray) _ _ ([] : List Int) t239 _ ?side1 ?side2 ?side3 ?side4 A82.out).mono ?_); (case side1 => exact Kd.C_below HR0_3.out zq3); (case side2 => exact HC0_3.out); (case side3 => exact Kd.C_nil _ _); (case side4 => exact Nat.le_refl _); rintro e w86 ⟨rfl, hb⟩; replace BK230 := zA (blk_below (g := gb230) (o := .cells #[.int .i64 a0_0, .int .i64 a0_1, .string a0_2, .slice A0_3 l0_3.length c0_3] 76 (0, 0)) zq21 hb); replace BK231 := zA (blk_below (g := gb231) (o := .cells #[.int .i64 a0_0, .int .i64 0, .string (⟨#[]⟩ : ByteArray), .slice none 0 0] 76 (0, 0)) zq15 hb); replace HB := zA (below_step zq3 hb); clear hb))
       go_ret
       exact ⟨zq2, zq3⟩
      ·rw [if_neg c80] at H
       have c80b0 : (a0_0 == 130) = false := beq_eq_false_iff_ne.mpr c80
       have c80b1 : (a0_0 != 130) = true := bne_iff_ne.mpr c80
       have HC87 := zA H
       clear H
       go_upto_region 4 with (fail)
       have H := HC87.out
       clear HC87
       obtain rfl := Option.some.inj H
       go_wp2
       go_ret
       exact ⟨zq2, zq3⟩

end Go.Proofs.Ytkcgghgkmgbphaa.PFnExactPutVal
