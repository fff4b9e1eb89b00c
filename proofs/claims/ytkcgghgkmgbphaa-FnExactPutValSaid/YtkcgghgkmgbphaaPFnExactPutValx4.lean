-- WRITTEN BY a turned copy of the kit's printer (wip/patch_print.py), for this claim
import Derived.Test.YtkcgghgkmgbphaaPFnExactPutValx0
namespace Go.Proofs.Ytkcgghgkmgbphaa.PFnExactPutVal
open Go.RowKit Go.Proofs.YtkcgghgkmgbphaaW.PrintWords Go.Proofs.YtkcgghgkmgbphaaW.PrintLast Go.Proofs.YtkcgghgkmgbphaaW.PrintMore
attribute [local go_sem] max2_int min2_int max_two min_two max_three min_three max_four min_four   -- for this text's walks alone
set_option linter.unusedVariables false
set_option linter.unusedSimpArgs false

attribute [local go_sem] cell_setCell_m
/-! ### laws_toIntS: function 154 -/
def laws_toIntS.l0 : Nat → List Int → List Int → Int → Option (List Int)
 | 0, _, _, _ => none
 | k + 1, x0, x3, x4 => if x4 < (x0.length : Int) then (if 0 ≤ x4 then (if x4 < (x3.length : Int) then (laws_toIntS.l0 k x0 (x3.set (x4 : Int).toNat (rd x0 x4)) (wrap64 (x4 + 1))) else (none)) else (none)) else (some x3)
def laws_toIntS.f (k : Nat) (l0 : List Int) : Option (List Int) := if 0 ≤ (l0.length : Int) then (if ((l0.length : Int) : Int).toNat ≤ 35184372088832 then (laws_toIntS.l0 k l0 (List.replicate ((l0.length : Int) : Int).toNat 0) 0) else (none)) else (none)
theorem laws_toIntS.mono_l : ∀ k, (∀ y0 y1 y2, LeO (laws_toIntS.l0 k y0 y1 y2) (laws_toIntS.l0 (k + 1) y0 y1 y2))
 | 0 => fun _ _ _ r h => by simp [laws_toIntS.l0] at h
 | k + 1 => by
  have ih0 := laws_toIntS.mono_l k
  ·intro y0 y1 y2
   unfold laws_toIntS.l0
   exact zR
theorem laws_toIntS.mono : ∀ a0 k, LeO (laws_toIntS.f k a0) (laws_toIntS.f (k + 1) a0) := by
 intro a0 k
 have ih0 := laws_toIntS.mono_l k
 unfold laws_toIntS.f
 exact zR
set_option maxHeartbeats 8000000 in
set_option maxRecDepth 100000 in
theorem laws_toIntS.calls (k : Nat) (A0 : Option Addr) (c0 : Nat) (l0 : List Int) (r : List Int) (w : World) (hr0 : Kd.C (Kd.int .i64) w A0 l0.length l0) (hc0 : l0.length ≤ c0) (h : laws_toIntS.f k l0 = some r) :
  Calls Try.prog 154 #[.slice A0 l0.length c0] w fun e w' => ∃ v0_ : Value, e = .returned (v0_) ∧ Kd.R (Kd.int .i64) 3 w' w.heap.size (fun _ => True) v0_ r ∧ Below w.heap.size w w' := by
 have HR0 := zA hr0
 have HC0 := zA hc0
 clear hr0 hc0
 have HB := zA (Below.refl w.heap.size w)
 unfold laws_toIntS.f at h
 have H := h
 clear h
 have HC2 := zA H
 clear H
 go_enter Try.func154, Try.ntmps154
 go_upto_region 0 with (fail)
 have H := HC2.out
 clear HC2
 have HC3 := zA H
 clear H
 go_upto_region 1 with (fail)
 have H := HC3.out
 clear HC3
 obtain ⟨c4, H⟩ := zN H
 have c4b0 := eq_true c4
 have c4b1 : decide (0 ≤ (l0.length : Int)) = true := decide_eq_true c4
 clear c4
 obtain ⟨c5, H⟩ := zN H
 have c5b0 := eq_true c5
 have c5b1 : decide (((l0.length : Int) : Int).toNat ≤ 35184372088832) = true := decide_eq_true c5
 clear c5
 obtain ⟨y210, hy210⟩ : ∃ y_ : List Int, y_ = (List.replicate ((l0.length : Int) : Int).toNat 0) := ⟨_, rfl⟩
 rw [← hy210] at H
 have Ny210 := zA hy210
 clear hy210
 have HC6 := zA H
 clear H
 go_upto_region 2 with (first | ((with_reducible refine gate_dst (N := 7) rfl ?_); refine Kd.R_make (Kd.int .i64) _ 3 rfl (N := 7) rfl 71 _ _ rfl (l0.length : Int) rfl rfl Try.underlying71 (.int .i64 0) 8 info3 rfl zq37 zq57 0 (ok := fun _ => True) (okp := fun _ => True) rfl (fun _ hk => hk) trivial (of_decide_eq_true zq9) (Nat.le_trans (Nat.mul_le_mul_right _ (of_decide_eq_true zq9 : (l0.length : Int).toNat ≤ 35184372088832)) zq57) (Below.refl _ _) (Nat.le_refl _) ?_; intro v211 w7 ho8 hb hg_ hnew_; clear hg_ hnew_; (first | rw [← Ny210.out] at ho8 | (simp only [Int.reduceToNat] at ho8; rw [← Ny210.out] at ho8)); have HO212 := zA (Kd.R_lower ho8 (below_size zq0)); replace HB := zA (below_step zq0 hb); clear hb ho8))
 (try simp only [Act.put, List.setIfInBounds_toArray, List.set_cons_zero, List.set_cons_succ])
 (try (rw [drewN_self w7]; generalize hq_ : World.drewN w7 _ = w7; replace HO212 := zA (Kd.R_at hq_ HO212.out); replace HB := zA (below_at hq_ HB.out); clear hq_))
 have H := HC6.out
 clear HC6
 have H' := zA H
 clear H
 go_wp2
 go_loopg [4] k (fun kq v4 w' => ∃ (x3_1 : List Int) (x4_1 : Int), v4 = .int .i64 x4_1 ∧ Aside0 (laws_toIntS.l0 kq l0 x3_1 x4_1 = some r) ∧ Aside0 (kq ≤ k) ∧ Aside0 (Kd.R (Kd.int .i64) 3 w' w.heap.size (fun _ => True) v211 x3_1) ∧ Aside0 (Below w.heap.size w w'))
 case atStart => exact ⟨(y210), (0), zq8, H', ⟨Nat.le_refl _⟩, ⟨(by (with_reducible repeat (first | apply Kd.R_alloc | apply Kd.R_drewN | apply Kd.R_drew)); exact HO212.out)⟩, ⟨zq0⟩⟩
 case round =>
  clear H'
  try clear c1
  try clear p2
  try clear c4
  try clear c4b0
  try clear c4b1
  try clear c5
  try clear c5b0
  try clear c5b1
  obtain ⟨x3_1, x4_1, rfl, HA, HK1, HO_3, HB⟩ := hrel
  cases gk with
  | zero => exact absurd HA.out (by simp [laws_toIntS.l0])
  | succ k1 =>
   have H := HA.out
   clear HA
   simp only [laws_toIntS.l0] at H
   have HC9 := zA H
   clear H
   go_upto_region 3 with (fail)
   have H := HC9.out
   clear HC9
   by_cases c10 : x4_1 < (l0.length : Int)
   ·rw [if_pos c10] at H
    have c10b0 : decide (x4_1 < (l0.length : Int)) = true := decide_eq_true c10
    clear c10
    have HC11 := zA H
    clear H
    go_upto_region 5 with (fail)
    have H := HC11.out
    clear HC11
    obtain ⟨c12, H⟩ := zN H
    have c12b0 : decide (0 ≤ x4_1) = true := decide_eq_true c12
    clear c12
    obtain ⟨c13, H⟩ := zN H
    have c13b0 : decide (x4_1 < (x3_1.length : Int)) = true := decide_eq_true c13
    clear c13
    obtain ⟨y214, hy214⟩ : ∃ y_ : List Int, y_ = (x3_1.set (x4_1 : Int).toNat (rd l0 x4_1)) := ⟨_, rfl⟩
    rw [← hy214] at H
    have Ny214 := zA hy214
    clear hy214
    have HC15 := zA H
    clear H
    have p213 : 0 ≤ (x4_1 : Int) := of_decide_eq_true zq9
    have q213 : x4_1 < (l0.length : Int) := of_decide_eq_true zq9
    obtain ⟨ad213, e213, hx213_0⟩ := Kd.at_int HR0.out x4_1 p213 q213
    cases e213
    replace hx213_0 := (HB.out.cell (World.block_lt_of_cell? w _ hx213_0)).trans hx213_0
    replace p213 := eq_true p213
    replace q213 := eq_true q213
    have p14 : 0 ≤ (x4_1 : Int) := of_decide_eq_true zq9
    have q14 : (x4_1 : Int) < ((x3_1.length : Int) : Int) := of_decide_eq_true zq9
    obtain ⟨go14, co14, eo14, gb14, gl14, cl14, HG14⟩ := Kd.R_form HO_3.out zq57
    (first | cases eo14 | (injection eo14 with ea_ en_ ec_; (first | subst ea_ | (injection ea_ with ea_; subst ea_)); subst ec_; clear en_))
    have GB14 := zA gb14
    have GG14 := zA HG14
    clear gb14 gl14 HG14
    obtain ⟨hx14_0, hf14_0⟩ := Kd.R_celln 0 HO_3.out (x4_1 : Int) p14 q14
    replace p14 := eq_true p14
    replace q14 := eq_true q14
    have HP16 := Kd.R_putg HO_3.out (x4_1 : Int) (rd l0 x4_1)
    go_upto_region 4 with (first | ((with_reducible refine gate_store (t := 3) (p := 20) rfl ?_); refine store_event (t := 3) (p := 20) (v := ?vo_w17) (w1 := (wr.setCell ⟨go14, (x4_1 : Int).toNat, none⟩ (.int .i64 (rd l0 x4_1)))) ?hg ?ho ?hn ?hr ?_; (case ho => rfl); (case hg => rfl); (case hn => rfl); (case hr => first | (go_simp; done) | (go_simp; rfl)); intro w17 hw; have hg : wr.grownBy w17 (some go14) := (by rw [hw]; exact HP16.2); have hp_ : Kd.R (Kd.int .i64) 3 w17 w.heap.size (fun _ => True) (.slice (some ⟨go14, 0, none⟩) x3_1.length co14) y214 := (by rw [hw, Ny214.out]; exact HP16.1); clear HP16; replace HO_3 := zA (hp_); replace HB := zA ((by rw [hw]; exact below_set (HB.out) GB14.out : Below w.heap.size w w17)); clear hg hw hp_))
    (try simp only [Act.put, List.setIfInBounds_toArray, List.set_cons_zero, List.set_cons_succ])
    have H := HC15.out
    clear HC15
    have H' := zA H
    clear H
    go_wp2
    go_roundg k1
    case measure => have := HK1.out; omega
    case rel => exact ⟨(y214), (wrap64 (x4_1 + 1)), zq8, H', ⟨zq49⟩, ⟨zq10⟩, ⟨zq0⟩⟩
   ·rw [if_neg c10] at H
    have c10b0 : decide (x4_1 < (l0.length : Int)) = false := decide_eq_false c10
    clear c10
    have HC18 := zA H
    clear H
    go_upto_region 6 with (fail)
    have H := HC18.out
    clear HC18
    obtain rfl := Option.some.inj H
    go_wp2
    go_ret
    exact ⟨_, zq2, zq10, zq0⟩

/-! ### laws_toVal: function 69 -/
def laws_toVal.f (k : Nat) (a0_0 : Int) (a0_1 : Int) (a0_2 : ByteArray) (l0_3 : List Int) : Option (Int × Int × ByteArray × List Int) := (laws_toIntS.f k l0_3).bind fun t218 => (some (a0_0, a0_1, a0_2, t218))
theorem laws_toVal.mono : ∀ a0 a1 a2 a3 k, LeO (laws_toVal.f k a0 a1 a2 a3) (laws_toVal.f (k + 1) a0 a1 a2 a3) := by
 intro a0 a1 a2 a3 k
 unfold laws_toVal.f
 have m0_ := @laws_toIntS.mono
 exact zR
set_option maxHeartbeats 8000000 in
set_option maxRecDepth 100000 in
theorem laws_toVal.calls (k : Nat) (a0_0 : Int) (a0_1 : Int) (a0_2 : ByteArray) (A0_3 : Option Addr) (c0_3 : Nat) (l0_3 : List Int) (r1 : Int) (r2 : Int) (r3 : ByteArray) (r4 : List Int) (w : World) (hr0_3 : Kd.C (Kd.int .i64) w A0_3 l0_3.length l0_3) (hc0_3 : l0_3.length ≤ c0_3) (h : laws_toVal.f k a0_0 a0_1 a0_2 l0_3 = some (r1, r2, r3, r4)) :
  Calls Try.prog 69 #[.agg #[.int .i64 a0_0, .int .i64 a0_1, .string a0_2, .slice A0_3 l0_3.length c0_3]] w fun e w' => ∃ v3_ : Value, e = .returned (.agg #[.int .i64 r1, .int .i64 r2, .string r3, v3_]) ∧ Kd.R (Kd.int .i64) 3 w' w.heap.size (fun _ => True) v3_ r4 ∧ Below w.heap.size w w' := by
 have hu73 := Try.underlying73
 have hu76 := Try.underlying76
 have HR0_3 := zA hr0_3
 have HC0_3 := zA hc0_3
 clear hr0_3 hc0_3
 have HB := zA (Below.refl w.heap.size w)
 unfold laws_toVal.f at h
 have H := h
 clear h
 have HC2 := zA H
 clear H
 go_enter Try.func69, Try.ntmps69
 go_upto_region 0 with (fail)
 have H := HC2.out
 clear HC2
 have HC3 := zA H
 clear H
 go_upto_region 1 with (first | ((with_reducible refine gate_dst (N := 1) rfl ?_); refine box_event ?hg (N := 1) ?hd (cs := #[.int .i64 a0_0, .int .i64 a0_1, .string a0_2, .slice A0_3 l0_3.length c0_3]) (t := 73) ?hr ?_; (case hd => rfl); (case hg => rfl); (case hr => first | (go_simp; done) | (go_simp; rfl)); intro gb215 hg w4 hbox hb; have BK215 := zA (hbox); have GW215 := zA ((zq6 : w.heap.size ≤ gb215)); have GE215 := zA ((zq6 : w.heap.size ≤ gb215)); replace HB := zA (below_step zq0 hb); clear hb hbox hg) | ((with_reducible refine gate_dst (N := 2) rfl ?_); refine box_event ?hg (N := 2) ?hd (cs := #[.int .i64 0, .int .i64 0, .string (⟨#[]⟩ : ByteArray), .slice none 0 0]) (t := 76) ?hr ?_; (case hd => rfl); (case hg => rfl); (case hr => first | (go_simp; done) | (go_simp; rfl)); intro gb216 hg w5 hbox hb; have BK216 := zA (hbox); have GW216 := zA ((zq66 : w.heap.size ≤ gb216)); have GE216 := zA ((zq66 : w.heap.size ≤ gb216)); replace HB := zA (below_step zq44 hb); have NB215_216 := zA ((zq55 : gb215 ≠ gb216)); have NB216_215 := zA ((zq56 : gb216 ≠ gb215)); replace BK215 := zA (blk_below (g := gb215) (o := .cells #[.int .i64 a0_0, .int .i64 a0_1, .string a0_2, .slice A0_3 l0_3.length c0_3] 73 (0, 0)) zq33 hb); clear hb hbox hg))
 (try simp only [Act.put, List.setIfInBounds_toArray, List.set_cons_zero, List.set_cons_succ])
 have H := HC3.out
 clear HC3
 have HC6 := zA H
 clear H
 go_upto_region 2 with (first | ((with_reducible refine gate_dst (N := 3) rfl ?_); refine box_event ?hg (N := 3) ?hd (cs := #[.int .i64 0, .int .i64 0, .string (⟨#[]⟩ : ByteArray), .slice none 0 0]) (t := 76) ?hr ?_; (case hd => rfl); (case hg => rfl); (case hr => first | (go_simp; done) | (go_simp; rfl)); intro gb217 hg w7 hbox hb; have BK217 := zA (hbox); have GW217 := zA ((zq63 : w.heap.size ≤ gb217)); have GE217 := zA ((zq63 : w.heap.size ≤ gb217)); replace HB := zA (below_step zq42 hb); have NB215_217 := zA ((zq55 : gb215 ≠ gb217)); have NB217_215 := zA ((zq56 : gb217 ≠ gb215)); replace BK215 := zA (blk_below (g := gb215) (o := .cells #[.int .i64 a0_0, .int .i64 a0_1, .string a0_2, .slice A0_3 l0_3.length c0_3] 73 (0, 0)) zq33 hb); have NB216_217 := zA ((by rw [hg]; exact Nat.ne_of_lt (blk_lt (g := gb216) (o := .cells #[.int .i64 0, .int .i64 0, .string (⟨#[]⟩ : ByteArray), .slice none 0 0] 76 (0, 0)) zq59) : gb216 ≠ gb217)); have NB217_216 := zA ((by rw [hg]; exact Nat.ne_of_gt (blk_lt (g := gb216) (o := .cells #[.int .i64 0, .int .i64 0, .string (⟨#[]⟩ : ByteArray), .slice none 0 0] 76 (0, 0)) zq59) : gb217 ≠ gb216)); replace BK216 := zA (blk_below (g := gb216) (o := .cells #[.int .i64 0, .int .i64 0, .string (⟨#[]⟩ : ByteArray), .slice none 0 0] 76 (0, 0)) zq59 hb); clear hb hbox hg))
 (try simp only [Act.put, List.setIfInBounds_toArray, List.set_cons_zero, List.set_cons_succ])
 have H := HC6.out
 clear HC6
 have HC8 := zA H
 clear H
 have hnb9 := NB215_216.out
 have hnc9 := NB216_215.out
 have hnb10 := NB215_217.out
 have hnc10 := NB217_215.out
 have hcz11_0 : w7.cell? ⟨gb215, 0, none⟩ = some (.int .i64 a0_0) := (blk_cell BK215.out 0).trans rfl
 have hcz11_1 : w7.cell? ⟨gb215, 1, none⟩ = some (.int .i64 a0_1) := (blk_cell BK215.out 1).trans rfl
 have hcz11_2 : w7.cell? ⟨gb215, 2, none⟩ = some (.string a0_2) := (blk_cell BK215.out 2).trans rfl
 have hcz11_3 : w7.cell? ⟨gb215, 3, none⟩ = some (.slice A0_3 l0_3.length c0_3) := (blk_cell BK215.out 3).trans rfl
 have hfz11_0 := blk_frozen BK215.out 0
 have hfz11_1 := blk_frozen BK215.out 1
 have hfz11_2 := blk_frozen BK215.out 2
 have hfz11_3 := blk_frozen BK215.out 3
 have hnb12 := NB217_216.out
 have hnc12 := NB216_217.out
 have hcz13_0 : w7.cell? ⟨gb217, 0, none⟩ = some (.int .i64 0) := (blk_cell BK217.out 0).trans rfl
 have hcz13_1 : w7.cell? ⟨gb217, 1, none⟩ = some (.int .i64 0) := (blk_cell BK217.out 1).trans rfl
 have hcz13_2 : w7.cell? ⟨gb217, 2, none⟩ = some (.string (⟨#[]⟩ : ByteArray)) := (blk_cell BK217.out 2).trans rfl
 have hcz13_3 : w7.cell? ⟨gb217, 3, none⟩ = some (.slice none 0 0) := (blk_cell BK217.out 3).trans rfl
 have hfz13_0 := blk_frozen BK217.out 0
 have hfz13_1 := blk_frozen BK217.out 1
 have hfz13_2 := blk_frozen BK217.out 2
 have hfz13_3 := blk_frozen BK217.out 3
 go_upto_region 3 with (fail)
 have H := HC8.out
 clear HC8
 have HC14 := zA H
 clear H
 have hnb15 := NB215_216.out
 have hnc15 := NB216_215.out
 have hnb16 := NB215_217.out
 have hnc16 := NB217_215.out
 have hcz17_0 : w7.cell? ⟨gb215, 0, none⟩ = some (.int .i64 a0_0) := (blk_cell BK215.out 0).trans rfl
 have hcz17_1 : w7.cell? ⟨gb215, 1, none⟩ = some (.int .i64 a0_1) := (blk_cell BK215.out 1).trans rfl
 have hcz17_2 : w7.cell? ⟨gb215, 2, none⟩ = some (.string a0_2) := (blk_cell BK215.out 2).trans rfl
 have hcz17_3 : w7.cell? ⟨gb215, 3, none⟩ = some (.slice A0_3 l0_3.length c0_3) := (blk_cell BK215.out 3).trans rfl
 have hfz17_0 := blk_frozen BK215.out 0
 have hfz17_1 := blk_frozen BK215.out 1
 have hfz17_2 := blk_frozen BK215.out 2
 have hfz17_3 := blk_frozen BK215.out 3
 have hnb18 := NB217_216.out
 have hnc18 := NB216_217.out
 have hcz19_0 : w7.cell? ⟨gb217, 0, none⟩ = some (.int .i64 0) := (blk_cell BK217.out 0).trans rfl
 have hcz19_1 : w7.cell? ⟨gb217, 1, none⟩ = some (.int .i64 0) := (blk_cell BK217.out 1).trans rfl
 have hcz19_2 : w7.cell? ⟨gb217, 2, none⟩ = some (.string (⟨#[]⟩ : ByteArray)) := (blk_cell BK217.out 2).trans rfl
 have hcz19_3 : w7.cell? ⟨gb217, 3, none⟩ = some (.slice none 0 0) := (blk_cell BK217.out 3).trans rfl
 have hfz19_0 := blk_frozen BK217.out 0
 have hfz19_1 := blk_frozen BK217.out 1
 have hfz19_2 := blk_frozen BK217.out 2
 have hfz19_3 := blk_frozen BK217.out 3
 go_upto_region 4 with (fail)
 have H := HC14.out
 clear HC14
 have HC20 := zA H
 clear H
 have hnb21 := NB215_216.out
 have hnc21 := NB216_215.out
 have hnb22 := NB215_217.out
 have hnc22 := NB217_215.out
 have hcz23_0 : w7.cell? ⟨gb215, 0, none⟩ = some (.int .i64 a0_0) := (blk_cell BK215.out 0).trans rfl
 have hcz23_1 : w7.cell? ⟨gb215, 1, none⟩ = some (.int .i64 a0_1) := (blk_cell BK215.out 1).trans rfl
 have hcz23_2 : w7.cell? ⟨gb215, 2, none⟩ = some (.string a0_2) := (blk_cell BK215.out 2).trans rfl
 have hcz23_3 : w7.cell? ⟨gb215, 3, none⟩ = some (.slice A0_3 l0_3.length c0_3) := (blk_cell BK215.out 3).trans rfl
 have hfz23_0 := blk_frozen BK215.out 0
 have hfz23_1 := blk_frozen BK215.out 1
 have hfz23_2 := blk_frozen BK215.out 2
 have hfz23_3 := blk_frozen BK215.out 3
 have hnb24 := NB217_216.out
 have hnc24 := NB216_217.out
 have hcz25_0 : w7.cell? ⟨gb217, 0, none⟩ = some (.int .i64 0) := (blk_cell BK217.out 0).trans rfl
 have hcz25_1 : w7.cell? ⟨gb217, 1, none⟩ = some (.int .i64 0) := (blk_cell BK217.out 1).trans rfl
 have hcz25_2 : w7.cell? ⟨gb217, 2, none⟩ = some (.string (⟨#[]⟩ : ByteArray)) := (blk_cell BK217.out 2).trans rfl
 have hcz25_3 : w7.cell? ⟨gb217, 3, none⟩ = some (.slice none 0 0) := (blk_cell BK217.out 3).trans rfl
 have hfz25_0 := blk_frozen BK217.out 0
 have hfz25_1 := blk_frozen BK217.out 1
 have hfz25_2 := blk_frozen BK217.out 2
 have hfz25_3 := blk_frozen BK217.out 3
 go_upto_region 5 with (fail)
 have H := HC20.out
 clear HC20
 obtain ⟨t218, A26, H⟩ := zB H
 try dsimp only at H
 have HC27 := zA H
 clear H
 have hnb28 := NB215_216.out
 have hnc28 := NB216_215.out
 have hnb29 := NB215_217.out
 have hnc29 := NB217_215.out
 have hcz30_0 : w7.cell? ⟨gb215, 0, none⟩ = some (.int .i64 a0_0) := (blk_cell BK215.out 0).trans rfl
 have hcz30_1 : w7.cell? ⟨gb215, 1, none⟩ = some (.int .i64 a0_1) := (blk_cell BK215.out 1).trans rfl
 have hcz30_2 : w7.cell? ⟨gb215, 2, none⟩ = some (.string a0_2) := (blk_cell BK215.out 2).trans rfl
 have hcz30_3 : w7.cell? ⟨gb215, 3, none⟩ = some (.slice A0_3 l0_3.length c0_3) := (blk_cell BK215.out 3).trans rfl
 have hfz30_0 := blk_frozen BK215.out 0
 have hfz30_1 := blk_frozen BK215.out 1
 have hfz30_2 := blk_frozen BK215.out 2
 have hfz30_3 := blk_frozen BK215.out 3
 go_upto_region 6 with (first | ((with_reducible refine gate_callee (f := 154) rfl ?_); refine goesL_ (some 15) rfl rfl Try.func154 (by kernel_rfl) rfl #[.slice A0_3 l0_3.length c0_3] rfl zq1 ?_; (with_reducible refine (laws_toIntS.calls k _ _ l0_3 t218 _ ?side1 ?side2 A26.out).mono ?_); (case side1 => exact Kd.C_below HR0_3.out zq31); (case side2 => exact HC0_3.out); rintro e w31 ⟨v219, rfl, ho0, hb⟩; refine ⟨_, rfl, ?_⟩; have HO220 := zA (Kd.R_lower ho0 (below_size zq31)); replace BK215 := zA (blk_below (g := gb215) (o := .cells #[.int .i64 a0_0, .int .i64 a0_1, .string a0_2, .slice A0_3 l0_3.length c0_3] 73 (0, 0)) (by (with_reducible repeat (first | refine blk_drewN ?_ _ | refine blk_drew ?_ | refine blk_alloc ?_ _)); refine blk_far ?_ NB215_217.out _; (with_reducible repeat (first | refine blk_drewN ?_ _ | refine blk_drew ?_ | refine blk_alloc ?_ _)); refine blk_far ?_ NB215_217.out _; (with_reducible repeat (first | refine blk_drewN ?_ _ | refine blk_drew ?_ | refine blk_alloc ?_ _)); refine blk_far ?_ NB215_217.out _; (with_reducible repeat (first | refine blk_drewN ?_ _ | refine blk_drew ?_ | refine blk_alloc ?_ _)); exact BK215.out) hb); replace BK216 := zA (blk_below (g := gb216) (o := .cells #[.int .i64 0, .int .i64 0, .string (⟨#[]⟩ : ByteArray), .slice none 0 0] 76 (0, 0)) (by (with_reducible repeat (first | refine blk_drewN ?_ _ | refine blk_drew ?_ | refine blk_alloc ?_ _)); refine blk_far ?_ NB216_217.out _; (with_reducible repeat (first | refine blk_drewN ?_ _ | refine blk_drew ?_ | refine blk_alloc ?_ _)); refine blk_far ?_ NB216_217.out _; (with_reducible repeat (first | refine blk_drewN ?_ _ | refine blk_drew ?_ | refine blk_alloc ?_ _)); refine blk_far ?_ NB216_217.out _; (with_reducible repeat (first | refine blk_drewN ?_ _ | refine blk_drew ?_ | refine blk_alloc ?_ _)); exact BK216.out) hb); replace BK217 := zA (blk_below (g := gb217) (o := .cells #[.int .i64 a0_0, .int .i64 a0_1, .string a0_2, .slice none 0 0] 76 (0, 0)) (by (with_reducible repeat (first | refine blk_drewN ?_ _ | refine blk_drew ?_ | refine blk_alloc ?_ _)); refine blk_put (cs := #[.int .i64 a0_0, .int .i64 a0_1, .string (⟨#[]⟩ : ByteArray), .slice none 0 0]) ?_ 2 _ rfl; (with_reducible repeat (first | refine blk_drewN ?_ _ | refine blk_drew ?_ | refine blk_alloc ?_ _)); refine blk_put (cs := #[.int .i64 a0_0, .int .i64 0, .string (⟨#[]⟩ : ByteArray), .slice none 0 0]) ?_ 1 _ rfl; (with_reducible repeat (first | refine blk_drewN ?_ _ | refine blk_drew ?_ | refine blk_alloc ?_ _)); refine blk_put (cs := #[.int .i64 0, .int .i64 0, .string (⟨#[]⟩ : ByteArray), .slice none 0 0]) ?_ 0 _ rfl; (with_reducible repeat (first | refine blk_drewN ?_ _ | refine blk_drew ?_ | refine blk_alloc ?_ _)); exact BK217.out) hb); replace HB := zA (below_step zq31 hb); clear hb ho0; obtain ⟨Ao32, co32, eo32⟩ := Kd.R_slice HO220.out; subst eo32; have hnb33 := NB217_216.out; have hnc33 := NB216_217.out; have hcz34_0 : w31.cell? ⟨gb217, 0, none⟩ = some (.int .i64 a0_0) := (blk_cell BK217.out 0).trans rfl; have hcz34_1 : w31.cell? ⟨gb217, 1, none⟩ = some (.int .i64 a0_1) := (blk_cell BK217.out 1).trans rfl; have hcz34_2 : w31.cell? ⟨gb217, 2, none⟩ = some (.string a0_2) := (blk_cell BK217.out 2).trans rfl; have hcz34_3 : w31.cell? ⟨gb217, 3, none⟩ = some (.slice none 0 0) := (blk_cell BK217.out 3).trans rfl; have hfz34_0 := blk_frozen BK217.out 0; have hfz34_1 := blk_frozen BK217.out 1; have hfz34_2 := blk_frozen BK217.out 2; have hfz34_3 := blk_frozen BK217.out 3))
 (try simp only [Act.put, List.setIfInBounds_toArray, List.set_cons_zero, List.set_cons_succ])
 have H := HC27.out
 clear HC27
 simp only [Option.some.injEq, Prod.mk.injEq] at H
 obtain ⟨rfl, rfl, rfl, rfl⟩ := H
 have hnb35 := NB217_215.out
 have hnc35 := NB215_217.out
 have hnb36 := NB217_216.out
 have hnc36 := NB216_217.out
 have hcz37_0 : w31.cell? ⟨gb217, 0, none⟩ = some (.int .i64 a0_0) := (blk_cell BK217.out 0).trans rfl
 have hcz37_1 : w31.cell? ⟨gb217, 1, none⟩ = some (.int .i64 a0_1) := (blk_cell BK217.out 1).trans rfl
 have hcz37_2 : w31.cell? ⟨gb217, 2, none⟩ = some (.string a0_2) := (blk_cell BK217.out 2).trans rfl
 have hcz37_3 : w31.cell? ⟨gb217, 3, none⟩ = some (.slice none 0 0) := (blk_cell BK217.out 3).trans rfl
 have hfz37_0 := blk_frozen BK217.out 0
 have hfz37_1 := blk_frozen BK217.out 1
 have hfz37_2 := blk_frozen BK217.out 2
 have hfz37_3 := blk_frozen BK217.out 3
 have hnb38 := NB216_215.out
 have hnc38 := NB215_216.out
 have hcz39_0 : w31.cell? ⟨gb216, 0, none⟩ = some (.int .i64 0) := (blk_cell BK216.out 0).trans rfl
 have hcz39_1 : w31.cell? ⟨gb216, 1, none⟩ = some (.int .i64 0) := (blk_cell BK216.out 1).trans rfl
 have hcz39_2 : w31.cell? ⟨gb216, 2, none⟩ = some (.string (⟨#[]⟩ : ByteArray)) := (blk_cell BK216.out 2).trans rfl
 have hcz39_3 : w31.cell? ⟨gb216, 3, none⟩ = some (.slice none 0 0) := (blk_cell BK216.out 3).trans rfl
 have hfz39_0 := blk_frozen BK216.out 0
 have hfz39_1 := blk_frozen BK216.out 1
 have hfz39_2 := blk_frozen BK216.out 2
 have hfz39_3 := blk_frozen BK216.out 3
 go_wp2
 refine bodyPost_ret (results_cell_row rfl _ _ gb216 76 #[.int .i64 a0_0, .int .i64 a0_1, .string a0_2, .slice Ao32 t218.length co32] (0, 0) _ rfl (by (with_reducible repeat (first | refine blk_drewN ?_ _ | refine blk_drew ?_ | refine blk_alloc ?_ _)); refine blk_put (cs := #[.int .i64 a0_0, .int .i64 a0_1, .string a0_2, .slice none 0 0]) ?_ 3 _ rfl; (with_reducible repeat (first | refine blk_drewN ?_ _ | refine blk_drew ?_ | refine blk_alloc ?_ _)); refine blk_put (cs := #[.int .i64 a0_0, .int .i64 a0_1, .string (⟨#[]⟩ : ByteArray), .slice none 0 0]) ?_ 2 _ rfl; (with_reducible repeat (first | refine blk_drewN ?_ _ | refine blk_drew ?_ | refine blk_alloc ?_ _)); refine blk_put (cs := #[.int .i64 a0_0, .int .i64 0, .string (⟨#[]⟩ : ByteArray), .slice none 0 0]) ?_ 1 _ rfl; (with_reducible repeat (first | refine blk_drewN ?_ _ | refine blk_drew ?_ | refine blk_alloc ?_ _)); refine blk_put (cs := #[.int .i64 0, .int .i64 0, .string (⟨#[]⟩ : ByteArray), .slice none 0 0]) ?_ 0 _ rfl; (with_reducible repeat (first | refine blk_drewN ?_ _ | refine blk_drew ?_ | refine blk_alloc ?_ _)); refine blk_far ?_ NB216_217.out _; (with_reducible repeat (first | refine blk_drewN ?_ _ | refine blk_drew ?_ | refine blk_alloc ?_ _)); exact BK216.out) Try.underlying76 rfl (by kernel_rfl)) rfl ?_
 exact ⟨_, zq2, (by (with_reducible repeat (first | apply Kd.R_alloc | apply Kd.R_drewN | apply Kd.R_drew)); exact Kd.R_mono (Kd.R_far (p := ⟨gb216, 3, none⟩) (Kd.R_far (p := ⟨gb216, 2, none⟩) (Kd.R_far (p := ⟨gb216, 1, none⟩) (Kd.R_far (p := ⟨gb216, 0, none⟩) (Kd.R_far (p := ⟨gb217, 3, none⟩) (Kd.R_types (Kd.R_types HO220.out BK217.out zq37) BK216.out zq37) (fun _ hk => hk.1.2) (.slice Ao32 t218.length co32)) (fun _ hk => hk.2) (.int .i64 a0_0)) (fun _ hk => hk.2) (.int .i64 a0_1)) (fun _ hk => hk.2) (.string a0_2)) (fun _ hk => hk.2) (.slice Ao32 t218.length co32)) (fun _ hk => trivial)), zq31⟩

/-! ### impl_SameOid: function 128 -/
def impl_SameOid.l0 : Nat → List Int → List Int → Int → Int → Option (Bool)
 | 0, _, _, _, _ => none
 | k + 1, x0, x1, x12, x13 => if x13 < x12 then (if 0 ≤ x13 then (if x13 < (x0.length : Int) then (if x13 < (x1.length : Int) then (if (rd x0 x13) = (rd x1 x13) then (impl_SameOid.l0 k x0 x1 x12 (wrap64 (x13 + 1))) else (some false)) else (none)) else (none)) else (none)) else (some true)
def impl_SameOid.f (k : Nat) (l0 : List Int) (l1 : List Int) : Option (Bool) := if (l0.length : Int) = (l1.length : Int) then (impl_SameOid.l0 k l0 l1 (l0.length : Int) 0) else (some false)
theorem impl_SameOid.mono_l : ∀ k, (∀ y0 y1 y2 y3, LeO (impl_SameOid.l0 k y0 y1 y2 y3) (impl_SameOid.l0 (k + 1) y0 y1 y2 y3))
 | 0 => fun _ _ _ _ r h => by simp [impl_SameOid.l0] at h
 | k + 1 => by
  have ih0 := impl_SameOid.mono_l k
  ·intro y0 y1 y2 y3
   unfold impl_SameOid.l0
   exact zR
theorem impl_SameOid.mono : ∀ a0 a1 k, LeO (impl_SameOid.f k a0 a1) (impl_SameOid.f (k + 1) a0 a1) := by
 intro a0 a1 k
 have ih0 := impl_SameOid.mono_l k
 unfold impl_SameOid.f
 exact zR
set_option maxHeartbeats 8000000 in
set_option maxRecDepth 100000 in
theorem impl_SameOid.calls (k : Nat) (A0 : Option Addr) (c0 : Nat) (l0 : List Int) (A1 : Option Addr) (c1 : Nat) (l1 : List Int) (r : Bool) (w : World) (hr0 : Kd.C (Kd.int .i64) w A0 l0.length l0) (hc0 : l0.length ≤ c0) (hr1 : Kd.C (Kd.int .i64) w A1 l1.length l1) (hc1 : l1.length ≤ c1) (h : impl_SameOid.f k l0 l1 = some r) :
  Calls Try.prog 128 #[.slice A0 l0.length c0, .slice A1 l1.length c1] w fun e w' => e = .returned (.bool r) ∧ Drawn0 w w' := by
 have HR0 := zA hr0
 have HC0 := zA hc0
 clear hr0 hc0
 have HR1 := zA hr1
 have HC1 := zA hc1
 clear hr1 hc1
 unfold impl_SameOid.f at h
 have H := h
 clear h
 have HC3 := zA H
 clear H
 go_enter Try.func128, Try.ntmps128
 go_upto_region 0 with (fail)
 repeat (go_quiet (fail); go_upto_region 0 with (fail))
 have H := HC3.out
 clear HC3
 have HC4 := zA H
 clear H
 go_upto_region 1 with (fail)
 repeat (go_quiet (fail); go_upto_region 1 with (fail))
 have H := HC4.out
 clear HC4
 by_cases c5 : (l0.length : Int) = (l1.length : Int)
 ·rw [if_pos c5] at H
  have c5b0 : ((l0.length : Int) == (l1.length : Int)) = true := beq_iff_eq.mpr c5
  have c5b1 : ((l0.length : Int) != (l1.length : Int)) = false := bne_eq_false_iff_eq.mpr c5
  have c5b2 : (l0.length == l1.length) = true := by first | simpa using c5 | (simp at c5 ⊢; omega)
  clear c5
  have HC6 := zA H
  clear H
  go_upto_region 3 with (fail)
  repeat (go_quiet (fail); go_upto_region 3 with (fail))
  have H := HC6.out
  clear HC6
  have H' := zA H
  clear H
  go_wp2
  repeat (go_quiet (fail); try go_wp2)
  go_loopg [13] k (fun kq v13 w' => ∃ (x13_1 : Int), v13 = .int .i64 x13_1 ∧ Aside0 (impl_SameOid.l0 kq l0 l1 (l0.length : Int) x13_1 = some r) ∧ Aside0 (kq ≤ k) ∧ Drawn0 w w')
  case atStart => exact ⟨(0), zq8, H', ⟨Nat.le_refl _⟩, zq14⟩
  case round =>
   clear H'
   try clear c1
   try clear p2
   try clear c5
   try clear c5b0
   try clear c5b1
   try clear c5b2
   obtain ⟨x13_1, rfl, HA, HK1, ⟨m1, rfl⟩⟩ := hrel
   cases gk with
   | zero => exact absurd HA.out (by simp [impl_SameOid.l0])
   | succ k1 =>
    have H := HA.out
    clear HA
    simp only [impl_SameOid.l0] at H
    have HC7 := zA H
    clear H
    go_upto_region 4 with (fail)
    repeat (go_quiet (fail); go_upto_region 4 with (fail))
    have H := HC7.out
    clear HC7
    by_cases c8 : x13_1 < (l0.length : Int)
    ·rw [if_pos c8] at H
     have c8b0 : decide (x13_1 < (l0.length : Int)) = true := decide_eq_true c8
     clear c8
     have HC9 := zA H
     clear H
     go_upto_region 5 with (fail)
     repeat (go_quiet (fail); go_upto_region 5 with (fail))
     have H := HC9.out
     clear HC9
     have HC10 := zA H
     clear H
     go_upto_region 6 with (fail)
     repeat (go_quiet (fail); go_upto_region 6 with (fail))
     have H := HC10.out
     clear HC10
     obtain ⟨c11, H⟩ := zN H
     have c11b0 : decide (0 ≤ x13_1) = true := decide_eq_true c11
     clear c11
     obtain ⟨c12, H⟩ := zN H
     have c12b0 : decide (x13_1 < (l0.length : Int)) = true := decide_eq_true c12
     clear c12
     obtain ⟨c13, H⟩ := zN H
     have c13b0 : decide (x13_1 < (l1.length : Int)) = true := decide_eq_true c13
     clear c13
     by_cases c14 : (rd l0 x13_1) = (rd l1 x13_1)
     ·rw [if_pos c14] at H
      have c14b0 : ((rd l0 x13_1) == (rd l1 x13_1)) = true := beq_iff_eq.mpr c14
      have c14b1 : ((rd l0 x13_1) != (rd l1 x13_1)) = false := bne_eq_false_iff_eq.mpr c14
      clear c14
      have HC15 := zA H
      clear H
      have p221 : 0 ≤ (x13_1 : Int) := of_decide_eq_true zq9
      have q221 : x13_1 < (l0.length : Int) := of_decide_eq_true zq9
      obtain ⟨ad221, e221, hx221_0⟩ := Kd.at_int HR0.out x13_1 p221 q221
      cases e221
      replace p221 := eq_true p221
      replace q221 := eq_true q221
      have p222 : 0 ≤ (x13_1 : Int) := of_decide_eq_true zq9
      have q222 : x13_1 < (l1.length : Int) := of_decide_eq_true zq9
      obtain ⟨ad222, e222, hx222_0⟩ := Kd.at_int HR1.out x13_1 p222 q222
      cases e222
      replace p222 := eq_true p222
      replace q222 := eq_true q222
      go_upto_region 8 with (fail)
      repeat (go_quiet (fail); go_upto_region 8 with (fail))
      have H := HC15.out
      clear HC15
      have H' := zA H
      clear H
      go_wp2
      repeat (go_quiet (fail); try go_wp2)
      go_roundg k1
      case measure => have := HK1.out; omega
      case rel => exact ⟨(wrap64 (x13_1 + 1)), zq8, H', ⟨zq49⟩, zq14⟩
     ·rw [if_neg c14] at H
      have c14b0 : ((rd l0 x13_1) == (rd l1 x13_1)) = false := beq_eq_false_iff_ne.mpr c14
      have c14b1 : ((rd l0 x13_1) != (rd l1 x13_1)) = true := bne_iff_ne.mpr c14
      have HC16 := zA H
      clear H
      have p221 : 0 ≤ (x13_1 : Int) := of_decide_eq_true zq9
      have q221 : x13_1 < (l0.length : Int) := of_decide_eq_true zq9
      obtain ⟨ad221, e221, hx221_0⟩ := Kd.at_int HR0.out x13_1 p221 q221
      cases e221
      replace p221 := eq_true p221
      replace q221 := eq_true q221
      have p222 : 0 ≤ (x13_1 : Int) := of_decide_eq_true zq9
      have q222 : x13_1 < (l1.length : Int) := of_decide_eq_true zq9
      obtain ⟨ad222, e222, hx222_0⟩ := Kd.at_int HR1.out x13_1 p222 q222
      cases e222
      replace p222 := eq_true p222
      replace q222 := eq_true q222
      go_upto_region 7 with (fail)
      repeat (go_quiet (fail); go_upto_region 7 with (fail))
      have H := HC16.out
      clear HC16
      obtain rfl := Option.some.inj H
      go_wp2
      repeat (go_quiet (fail); try go_wp2)
      go_ret
      exact ⟨zq8, zq14⟩
    ·rw [if_neg c8] at H
     have c8b0 : decide (x13_1 < (l0.length : Int)) = false := decide_eq_false c8
     clear c8
     have HC17 := zA H
     clear H
     go_upto_region 9 with (fail)
     repeat (go_quiet (fail); go_upto_region 9 with (fail))
     have H := HC17.out
     clear HC17
     obtain rfl := Option.some.inj H
     go_wp2
     repeat (go_quiet (fail); try go_wp2)
     go_ret
     exact ⟨zq8, zq14⟩
 ·rw [if_neg c5] at H
  have c5b0 : ((l0.length : Int) == (l1.length : Int)) = false := beq_eq_false_iff_ne.mpr c5
  have c5b1 : ((l0.length : Int) != (l1.length : Int)) = true := bne_iff_ne.mpr c5
  have c5b2 : (l0.length == l1.length) = false := by first | simpa using c5 | (simp at c5 ⊢; omega)
  have HC18 := zA H
  clear H
  go_upto_region 2 with (fail)
  repeat (go_quiet (fail); go_upto_region 2 with (fail))
  have H := HC18.out
  clear HC18
  obtain rfl := Option.some.inj H
  go_wp2
  repeat (go_quiet (fail); try go_wp2)
  go_ret
  exact ⟨zq8, zq14⟩

/-! ### impl_SameVal: function 93 -/
def impl_SameVal.f (k : Nat) (a0_0 : Int) (a0_1 : Int) (a0_2 : ByteArray) (l0_3 : List Int) (a1_0 : Int) (a1_1 : Int) (a1_2 : ByteArray) (l1_3 : List Int) : Option (Bool) := if a0_0 = a1_0 then (if a0_1 = a1_1 then (if a0_2.toList = a1_2.toList then ((impl_SameOid.f k l0_3 l1_3).bind fun t225 => (some t225)) else (some false)) else (some false)) else (some false)
theorem impl_SameVal.mono : ∀ a0 a1 a2 a3 a4 a5 a6 a7 k, LeO (impl_SameVal.f k a0 a1 a2 a3 a4 a5 a6 a7) (impl_SameVal.f (k + 1) a0 a1 a2 a3 a4 a5 a6 a7) := by
 intro a0 a1 a2 a3 a4 a5 a6 a7 k
 unfold impl_SameVal.f
 have m0_ := @impl_SameOid.mono
 exact zR
set_option maxHeartbeats 8000000 in
set_option maxRecDepth 100000 in
theorem impl_SameVal.calls (k : Nat) (a0_0 : Int) (a0_1 : Int) (a0_2 : ByteArray) (A0_3 : Option Addr) (c0_3 : Nat) (l0_3 : List Int) (a1_0 : Int) (a1_1 : Int) (a1_2 : ByteArray) (A1_3 : Option Addr) (c1_3 : Nat) (l1_3 : List Int) (r : Bool) (w : World) (hr0_3 : Kd.C (Kd.int .i64) w A0_3 l0_3.length l0_3) (hc0_3 : l0_3.length ≤ c0_3) (hr1_3 : Kd.C (Kd.int .i64) w A1_3 l1_3.length l1_3) (hc1_3 : l1_3.length ≤ c1_3) (h : impl_SameVal.f k a0_0 a0_1 a0_2 l0_3 a1_0 a1_1 a1_2 l1_3 = some r) :
  Calls Try.prog 93 #[.agg #[.int .i64 a0_0, .int .i64 a0_1, .string a0_2, .slice A0_3 l0_3.length c0_3], .agg #[.int .i64 a1_0, .int .i64 a1_1, .string a1_2, .slice A1_3 l1_3.length c1_3]] w fun e w' => e = .returned (.bool r) ∧ Below w.heap.size w w' := by
 have hu76 := Try.underlying76
 have HR0_3 := zA hr0_3
 have HC0_3 := zA hc0_3
 clear hr0_3 hc0_3
 have HR1_3 := zA hr1_3
 have HC1_3 := zA hc1_3
 clear hr1_3 hc1_3
 have HB := zA (Below.refl w.heap.size w)
 unfold impl_SameVal.f at h
 have H := h
 clear h
 have HC3 := zA H
 clear H
 go_enter Try.func93, Try.ntmps93
 go_upto_region 0 with (fail)
 have H := HC3.out
 clear HC3
 have HC4 := zA H
 clear H
 go_upto_region 1 with (first | ((with_reducible refine gate_dst (N := 2) rfl ?_); refine box_event ?hg (N := 2) ?hd (cs := #[.int .i64 a0_0, .int .i64 a0_1, .string a0_2, .slice A0_3 l0_3.length c0_3]) (t := 76) ?hr ?_; (case hd => rfl); (case hg => rfl); (case hr => first | (go_simp; done) | (go_simp; rfl)); intro gb223 hg w5 hbox hb; have BK223 := zA (hbox); have GW223 := zA ((zq6 : w.heap.size ≤ gb223)); have GE223 := zA ((zq6 : w.heap.size ≤ gb223)); replace HB := zA (below_step zq0 hb); clear hb hbox hg) | ((with_reducible refine gate_dst (N := 3) rfl ?_); refine box_event ?hg (N := 3) ?hd (cs := #[.int .i64 a1_0, .int .i64 a1_1, .string a1_2, .slice A1_3 l1_3.length c1_3]) (t := 76) ?hr ?_; (case hd => rfl); (case hg => rfl); (case hr => first | (go_simp; done) | (go_simp; rfl)); intro gb224 hg w6 hbox hb; have BK224 := zA (hbox); have GW224 := zA ((zq67 : w.heap.size ≤ gb224)); have GE224 := zA ((zq67 : w.heap.size ≤ gb224)); replace HB := zA (below_step zq45 hb); have NB223_224 := zA ((by rw [hg]; exact Nat.ne_of_lt (blk_lt (g := gb223) (o := .cells #[.int .i64 a0_0, .int .i64 a0_1, .string a0_2, .slice A0_3 l0_3.length c0_3] 76 (0, 0)) zq60) : gb223 ≠ gb224)); have NB224_223 := zA ((by rw [hg]; exact Nat.ne_of_gt (blk_lt (g := gb223) (o := .cells #[.int .i64 a0_0, .int .i64 a0_1, .string a0_2, .slice A0_3 l0_3.length c0_3] 76 (0, 0)) zq60) : gb224 ≠ gb223)); replace BK223 := zA (blk_below (g := gb223) (o := .cells #[.int .i64 a0_0, .int .i64 a0_1, .string a0_2, .slice A0_3 l0_3.length c0_3] 76 (0, 0)) zq60 hb); clear hb hbox hg))
 (try simp only [Act.put, List.setIfInBounds_toArray, List.set_cons_zero, List.set_cons_succ])
 have H := HC4.out
 clear HC4
 by_cases c7 : a0_0 = a1_0
 ·rw [if_pos c7] at H
  have c7b0 : (a0_0 == a1_0) = true := beq_iff_eq.mpr c7
  have c7b1 : (a0_0 != a1_0) = false := bne_eq_false_iff_eq.mpr c7
  clear c7
  by_cases c8 : a0_1 = a1_1
  ·rw [if_pos c8] at H
   have c8b0 : (a0_1 == a1_1) = true := beq_iff_eq.mpr c8
   have c8b1 : (a0_1 != a1_1) = false := bne_eq_false_iff_eq.mpr c8
   clear c8
   by_cases c9 : a0_2.toList = a1_2.toList
   ·rw [if_pos c9] at H
    have c9b0 : (a0_2.toList == a1_2.toList) = true := beq_iff_eq.mpr c9
    have c9b1 : (a0_2.toList != a1_2.toList) = false := bne_eq_false_iff_eq.mpr c9
    clear c9
    obtain ⟨t225, A10, H⟩ := zB H
    try dsimp only at H
    obtain rfl := Option.some.inj H
    have hnb11 := NB223_224.out
    have hnc11 := NB224_223.out
    have hcz12_0 : w6.cell? ⟨gb223, 0, none⟩ = some (.int .i64 a0_0) := (blk_cell BK223.out 0).trans rfl
    have hcz12_1 : w6.cell? ⟨gb223, 1, none⟩ = some (.int .i64 a0_1) := (blk_cell BK223.out 1).trans rfl
    have hcz12_2 : w6.cell? ⟨gb223, 2, none⟩ = some (.string a0_2) := (blk_cell BK223.out 2).trans rfl
    have hcz12_3 : w6.cell? ⟨gb223, 3, none⟩ = some (.slice A0_3 l0_3.length c0_3) := (blk_cell BK223.out 3).trans rfl
    have hfz12_0 := blk_frozen BK223.out 0
    have hfz12_1 := blk_frozen BK223.out 1
    have hfz12_2 := blk_frozen BK223.out 2
    have hfz12_3 := blk_frozen BK223.out 3
    have hcz13_0 : w6.cell? ⟨gb224, 0, none⟩ = some (.int .i64 a1_0) := (blk_cell BK224.out 0).trans rfl
    have hcz13_1 : w6.cell? ⟨gb224, 1, none⟩ = some (.int .i64 a1_1) := (blk_cell BK224.out 1).trans rfl
    have hcz13_2 : w6.cell? ⟨gb224, 2, none⟩ = some (.string a1_2) := (blk_cell BK224.out 2).trans rfl
    have hcz13_3 : w6.cell? ⟨gb224, 3, none⟩ = some (.slice A1_3 l1_3.length c1_3) := (blk_cell BK224.out 3).trans rfl
    have hfz13_0 := blk_frozen BK224.out 0
    have hfz13_1 := blk_frozen BK224.out 1
    have hfz13_2 := blk_frozen BK224.out 2
    have hfz13_3 := blk_frozen BK224.out 3
    go_wp2_with (first | (go_at_call 128; (with_reducible refine (impl_SameOid.calls k _ _ l0_3 _ _ l1_3 t225 _ ?side1 ?side2 ?side3 ?side4 A10.out).mono ?_); (case side1 => repeat (first | exact (Kd.C_below HR0_3.out HB.out) | (with_reducible refine Kd.C_alloc ?_ _) | (with_reducible refine Kd.C_drewN ?_ _) | (with_reducible refine Kd.C_drew ?_))); (case side2 => exact HC0_3.out); (case side3 => repeat (first | exact (Kd.C_below HR1_3.out HB.out) | (with_reducible refine Kd.C_alloc ?_ _) | (with_reducible refine Kd.C_drewN ?_ _) | (with_reducible refine Kd.C_drew ?_))); (case side4 => exact HC1_3.out); rintro e w' ⟨rfl, ⟨nd, rfl⟩⟩))
    go_ret
    exact ⟨zq2, zq32⟩
   ·rw [if_neg c9] at H
    have c9b0 : (a0_2.toList == a1_2.toList) = false := beq_eq_false_iff_ne.mpr c9
    have c9b1 : (a0_2.toList != a1_2.toList) = true := bne_iff_ne.mpr c9
    obtain rfl := Option.some.inj H
    have hnb14 := NB223_224.out
    have hnc14 := NB224_223.out
    have hcz15_0 : w6.cell? ⟨gb223, 0, none⟩ = some (.int .i64 a0_0) := (blk_cell BK223.out 0).trans rfl
    have hcz15_1 : w6.cell? ⟨gb223, 1, none⟩ = some (.int .i64 a0_1) := (blk_cell BK223.out 1).trans rfl
    have hcz15_2 : w6.cell? ⟨gb223, 2, none⟩ = some (.string a0_2) := (blk_cell BK223.out 2).trans rfl
    have hcz15_3 : w6.cell? ⟨gb223, 3, none⟩ = some (.slice A0_3 l0_3.length c0_3) := (blk_cell BK223.out 3).trans rfl
    have hfz15_0 := blk_frozen BK223.out 0
    have hfz15_1 := blk_frozen BK223.out 1
    have hfz15_2 := blk_frozen BK223.out 2
    have hfz15_3 := blk_frozen BK223.out 3
    have hcz16_0 : w6.cell? ⟨gb224, 0, none⟩ = some (.int .i64 a1_0) := (blk_cell BK224.out 0).trans rfl
    have hcz16_1 : w6.cell? ⟨gb224, 1, none⟩ = some (.int .i64 a1_1) := (blk_cell BK224.out 1).trans rfl
    have hcz16_2 : w6.cell? ⟨gb224, 2, none⟩ = some (.string a1_2) := (blk_cell BK224.out 2).trans rfl
    have hcz16_3 : w6.cell? ⟨gb224, 3, none⟩ = some (.slice A1_3 l1_3.length c1_3) := (blk_cell BK224.out 3).trans rfl
    have hfz16_0 := blk_frozen BK224.out 0
    have hfz16_1 := blk_frozen BK224.out 1
    have hfz16_2 := blk_frozen BK224.out 2
    have hfz16_3 := blk_frozen BK224.out 3
    go_wp2
    go_ret
    exact ⟨zq2, zq32⟩
  ·rw [if_neg c8] at H
   have c8b0 : (a0_1 == a1_1) = false := beq_eq_false_iff_ne.mpr c8
   have c8b1 : (a0_1 != a1_1) = true := bne_iff_ne.mpr c8
   obtain rfl := Option.some.inj H
   have hnb17 := NB223_224.out
   have hnc17 := NB224_223.out
   have hcz18_0 : w6.cell? ⟨gb223, 0, none⟩ = some (.int .i64 a0_0) := (blk_cell BK223.out 0).trans rfl
   have hcz18_1 : w6.cell? ⟨gb223, 1, none⟩ = some (.int .i64 a0_1) := (blk_cell BK223.out 1).trans rfl
   have hcz18_2 : w6.cell? ⟨gb223, 2, none⟩ = some (.string a0_2) := (blk_cell BK223.out 2).trans rfl
   have hcz18_3 : w6.cell? ⟨gb223, 3, none⟩ = some (.slice A0_3 l0_3.length c0_3) := (blk_cell BK223.out 3).trans rfl
   have hfz18_0 := blk_frozen BK223.out 0
   have hfz18_1 := blk_frozen BK223.out 1
   have hfz18_2 := blk_frozen BK223.out 2
   have hfz18_3 := blk_frozen BK223.out 3
   have hcz19_0 : w6.cell? ⟨gb224, 0, none⟩ = some (.int .i64 a1_0) := (blk_cell BK224.out 0).trans rfl
   have hcz19_1 : w6.cell? ⟨gb224, 1, none⟩ = some (.int .i64 a1_1) := (blk_cell BK224.out 1).trans rfl
   have hcz19_2 : w6.cell? ⟨gb224, 2, none⟩ = some (.string a1_2) := (blk_cell BK224.out 2).trans rfl
   have hcz19_3 : w6.cell? ⟨gb224, 3, none⟩ = some (.slice A1_3 l1_3.length c1_3) := (blk_cell BK224.out 3).trans rfl
   have hfz19_0 := blk_frozen BK224.out 0
   have hfz19_1 := blk_frozen BK224.out 1
   have hfz19_2 := blk_frozen BK224.out 2
   have hfz19_3 := blk_frozen BK224.out 3
   go_wp2
   go_ret
   exact ⟨zq2, zq32⟩
 ·rw [if_neg c7] at H
  have c7b0 : (a0_0 == a1_0) = false := beq_eq_false_iff_ne.mpr c7
  have c7b1 : (a0_0 != a1_0) = true := bne_iff_ne.mpr c7
  obtain rfl := Option.some.inj H
  have hnb20 := NB223_224.out
  have hnc20 := NB224_223.out
  have hcz21_0 : w6.cell? ⟨gb223, 0, none⟩ = some (.int .i64 a0_0) := (blk_cell BK223.out 0).trans rfl
  have hcz21_1 : w6.cell? ⟨gb223, 1, none⟩ = some (.int .i64 a0_1) := (blk_cell BK223.out 1).trans rfl
  have hcz21_2 : w6.cell? ⟨gb223, 2, none⟩ = some (.string a0_2) := (blk_cell BK223.out 2).trans rfl
  have hcz21_3 : w6.cell? ⟨gb223, 3, none⟩ = some (.slice A0_3 l0_3.length c0_3) := (blk_cell BK223.out 3).trans rfl
  have hfz21_0 := blk_frozen BK223.out 0
  have hfz21_1 := blk_frozen BK223.out 1
  have hfz21_2 := blk_frozen BK223.out 2
  have hfz21_3 := blk_frozen BK223.out 3
  have hcz22_0 : w6.cell? ⟨gb224, 0, none⟩ = some (.int .i64 a1_0) := (blk_cell BK224.out 0).trans rfl
  have hcz22_1 : w6.cell? ⟨gb224, 1, none⟩ = some (.int .i64 a1_1) := (blk_cell BK224.out 1).trans rfl
  have hcz22_2 : w6.cell? ⟨gb224, 2, none⟩ = some (.string a1_2) := (blk_cell BK224.out 2).trans rfl
  have hcz22_3 : w6.cell? ⟨gb224, 3, none⟩ = some (.slice A1_3 l1_3.length c1_3) := (blk_cell BK224.out 3).trans rfl
  have hfz22_0 := blk_frozen BK224.out 0
  have hfz22_1 := blk_frozen BK224.out 1
  have hfz22_2 := blk_frozen BK224.out 2
  have hfz22_3 := blk_frozen BK224.out 3
  go_wp2
  go_ret
  exact ⟨zq2, zq32⟩

/-! ### impl_in: function 122 -/
def impl_in.f (a0 : Int) (a1 : Int) (a2 : Int) : Option (Bool) := if a0 ≥ a1 then (some (decide (a0 ≤ a2))) else (some false)
set_option maxHeartbeats 8000000 in
set_option maxRecDepth 100000 in
theorem impl_in.calls (a0 : Int) (a1 : Int) (a2 : Int) (r : Bool) (w : World) (h : impl_in.f a0 a1 a2 = some r) :
  Calls Try.prog 122 #[.int .i64 a0, .int .i64 a1, .int .i64 a2] w fun e w' => e = .returned (.bool r) ∧ Drawn0 w w' := by
 unfold impl_in.f at h
 have H := h
 clear h
 have HC4 := zA H
 clear H
 go_enter Try.func122, Try.ntmps122
 go_upto_region 0 with (fail)
 have H := HC4.out
 clear HC4
 have HC5 := zA H
 clear H
 go_upto_region 1 with (fail)
 have H := HC5.out
 clear HC5
 by_cases c6 : a0 ≥ a1
 ·rw [if_pos c6] at H
  have c6b0 : decide (a1 ≤ a0) = true := decide_eq_true c6
  clear c6
  obtain rfl := Option.some.inj H
  go_wp2
  go_ret
  exact ⟨zq8, zq14⟩
 ·rw [if_neg c6] at H
  have c6b0 : decide (a1 ≤ a0) = false := decide_eq_false c6
  clear c6
  obtain rfl := Option.some.inj H
  go_wp2
  go_ret
  exact ⟨zq8, zq14⟩

end Go.Proofs.Ytkcgghgkmgbphaa.PFnExactPutVal
