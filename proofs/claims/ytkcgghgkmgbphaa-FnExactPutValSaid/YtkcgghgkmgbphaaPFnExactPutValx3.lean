-- WRITTEN BY a turned copy of the kit's printer (wip/patch_print.py), for this claim
import Derived.Test.YtkcgghgkmgbphaaPFnExactPutValx0
import Derived.Test.YtkcgghgkmgbphaaPFnExactPutValx1
import Derived.Test.YtkcgghgkmgbphaaPFnExactPutValx2
namespace Go.Proofs.Ytkcgghgkmgbphaa.PFnExactPutVal
open Go.RowKit Go.Proofs.YtkcgghgkmgbphaaW.PrintWords Go.Proofs.YtkcgghgkmgbphaaW.PrintLast Go.Proofs.YtkcgghgkmgbphaaW.PrintMore
attribute [local go_sem] max2_int min2_int max_two min_two max_three min_three max_four min_four   -- for this text's walks alone
set_option linter.unusedVariables false
set_option linter.unusedSimpArgs false

attribute [local go_sem] cell_setCell_m
/-! ### spec_PutInt: function 152 -/
def spec_PutInt.l0 : Nat → Int → List Int → Option (List Int)
 | 0, _, _ => none
 | k + 1, x0, x3 => if x0 < (-128) then ((some (([(x0 / 256) % 256] : List Int) : List Int)).bind fun y146 => (if y146.length + x3.length < 140737488355328 then (spec_PutInt.l0 k (x0 / 256) (y146 ++ x3)) else (none))) else (if x0 > 127 then ((some (([(x0 / 256) % 256] : List Int) : List Int)).bind fun y152 => (if y152.length + x3.length < 140737488355328 then (spec_PutInt.l0 k (x0 / 256) (y152 ++ x3)) else (none))) else (some x3))
def spec_PutInt.f (k : Nat) (a0 : Int) : Option (List Int) := (spec_l1Clip.f a0).bind fun t142 => (spec_PutInt.l0 k t142 (([(t142) % 256] : List Int)))
theorem spec_PutInt.mono_l : ∀ k, (∀ y0 y1, LeO (spec_PutInt.l0 k y0 y1) (spec_PutInt.l0 (k + 1) y0 y1))
 | 0 => fun _ _ r h => by simp [spec_PutInt.l0] at h
 | k + 1 => by
  have ih0 := spec_PutInt.mono_l k
  ·intro y0 y1
   unfold spec_PutInt.l0
   exact zR
theorem spec_PutInt.mono : ∀ a0 k, LeO (spec_PutInt.f k a0) (spec_PutInt.f (k + 1) a0) := by
 intro a0 k
 have ih0 := spec_PutInt.mono_l k
 unfold spec_PutInt.f
 exact zR
set_option maxHeartbeats 8000000 in
set_option maxRecDepth 100000 in
theorem spec_PutInt.calls (k : Nat) (a0 : Int) (r : List Int) (w : World) (h : spec_PutInt.f k a0 = some r) :
  Calls Try.prog 152 #[.int .i64 a0] w fun e w' => ∃ v0_ : Value, e = .returned (v0_) ∧ Kd.R (Kd.int .u8) 5 w' w.heap.size (fun _ => True) v0_ r ∧ Below w.heap.size w w' := by
 have HB := zA (Below.refl w.heap.size w)
 unfold spec_PutInt.f at h
 have H := h
 clear h
 have HC2 := zA H
 clear H
 go_enter Try.func152, Try.ntmps152
 go_upto_region 0 with (fail)
 have H := HC2.out
 clear HC2
 have HC3 := zA H
 clear H
 go_upto_region 1 with (fail)
 have H := HC3.out
 clear HC3
 obtain ⟨t142, A4, H⟩ := zB H
 try dsimp only at H
 have HC5 := zA H
 clear H
 go_upto_region 2 with (first | ((with_reducible refine gate_callee (f := 174) rfl ?_); refine goesL_ (some 5) rfl rfl Try.func174 (by kernel_rfl) rfl #[.int .i64 a0] rfl zq1 ?_; (with_reducible refine (spec_l1Clip.calls a0 t142 _ A4.out).mono ?_); rintro e w' ⟨rfl, ⟨nd, rfl⟩⟩; refine ⟨_, rfl, ?_⟩))
 (try simp only [Act.put, List.setIfInBounds_toArray, List.set_cons_zero, List.set_cons_succ])
 have H := HC5.out
 clear HC5
 obtain ⟨y143, hy143⟩ : ∃ y_ : List Int, y_ = (([(t142) % 256] : List Int)) := ⟨_, rfl⟩
 rw [← hy143] at H
 have Ny143 := zA hy143
 clear hy143
 have H' := zA H
 clear H
 go_wp2_with (first | ((with_reducible refine gate_dst (N := 8) rfl ?_); refine Kd.R_lit (Kd.int .u8) _ 5 ?hg (N := 8) ?hd (xs := ([(t142) % 256] : List Int)) (inner := [.int .u8 ((t142) % 256)]) (ok := fun _ => True) (okp := fun _ => True) ?hr ?hp (fun _ hk => hk) trivial (Below.refl _ _) (Nat.le_refl _) zq89 ?_; (case hd => rfl); (case hg => rfl); (case hr => first | (go_simp; done) | (go_simp; rfl)); (case hp => exact (Reps.one (show Kd.M (Kd.int .u8) _ _ _ ((t142) % 256) [.int .u8 ((t142) % 256)] from rfl) (Reps.none _ _))); intro v144 w6 ho7 hb hg_ hnew_; clear hg_ hnew_; (first | rw [← Ny143.out] at ho7 | (simp only [Int.reduceToNat] at ho7; rw [← Ny143.out] at ho7)); have HO145 := zA (Kd.R_lower ho7 (below_size zq0)); replace HB := zA (below_step zq0 hb); clear hb ho7))
 go_loopg [0, 3] k (fun kq v0 v3 w' => ∃ (x0_1 : Int) (x3_1 : List Int), v0 = .int .i64 x0_1 ∧ Aside0 (spec_PutInt.l0 kq x0_1 x3_1 = some r) ∧ Aside0 (kq ≤ k) ∧ Aside0 (Kd.R (Kd.int .u8) 5 w' w.heap.size (fun _ => True) v3 x3_1) ∧ Aside0 (Below w.heap.size w w'))
 case atStart => exact ⟨(t142), (y143), zq8, H', ⟨Nat.le_refl _⟩, ⟨(by (with_reducible repeat (first | apply Kd.R_alloc | apply Kd.R_drewN | apply Kd.R_drew)); exact HO145.out)⟩, ⟨zq0⟩⟩
 case round =>
  clear H'
  try clear c1
  try clear p2
  obtain ⟨x0_1, x3_1, rfl, HA, HK1, HO_3, HB⟩ := hrel
  cases gk with
  | zero => exact absurd HA.out (by simp [spec_PutInt.l0])
  | succ k1 =>
   have H := HA.out
   clear HA
   simp only [spec_PutInt.l0] at H
   have HC8 := zA H
   clear H
   go_upto_region 3 with (fail)
   have H := HC8.out
   clear HC8
   by_cases c9 : x0_1 < (-128)
   ·rw [if_pos c9] at H
    have c9b0 : decide (x0_1 < (-128)) = true := decide_eq_true c9
    clear c9
    have HC10 := zA H
    clear H
    go_upto_region 4 with (fail)
    have H := HC10.out
    clear HC10
    have HC11 := zA H
    clear H
    go_upto_region 5 with (fail)
    have H := HC11.out
    clear HC11
    obtain ⟨y146, Ny146, H⟩ := zS (([(x0_1 / 256) % 256] : List Int)) H
    obtain ⟨c12, H⟩ := zN H
    have LMc12 := zA c12
    clear c12
    obtain ⟨y149, hy149⟩ : ∃ y_ : List Int, y_ = (y146 ++ x3_1) := ⟨_, rfl⟩
    rw [← hy149] at H
    have Ny149 := zA hy149
    clear hy149
    have H' := zA H
    clear H
    go_wp2_with (first | ((with_reducible refine gate_dst (N := 19) rfl ?_); refine Kd.R_lit (Kd.int .u8) _ 5 ?hg (N := 19) ?hd (xs := ([(x0_1 / 256) % 256] : List Int)) (inner := [.int .u8 ((x0_1 / 256) % 256)]) (ok := fun _ => True) (okp := fun _ => True) ?hr ?hp (fun _ hk => hk) trivial (Below.refl _ _) (Nat.le_refl _) zq89 ?_; (case hd => rfl); (case hg => rfl); (case hr => first | (go_simp; done) | (go_simp; rfl)); (case hp => exact (Reps.one (show Kd.M (Kd.int .u8) _ _ _ ((x0_1 / 256) % 256) [.int .u8 ((x0_1 / 256) % 256)] from rfl) (Reps.none _ _))); intro v147 w13 ho14 hb hg_ hnew_; clear hg_ hnew_; (first | rw [← Ny146.out] at ho14 | (simp only [Int.reduceToNat] at ho14; rw [← Ny146.out] at ho14)); have HO148 := zA (Kd.R_lower (Kd.R_new' ho14 (Kd.R_lt zq10)) (below_size zq0)); replace HO_3 := zA (Kd.R_elder' zq10 (Kd.R_base ho14) hb); replace HB := zA (below_step zq0 hb); clear hb ho14; obtain ⟨Ao16, co16, eo16⟩ := Kd.R_slice HO_3.out; subst eo16) | ((with_reducible refine gate_builtin (b := .append) (xs := #[.tmp 19, .tmp 20]) rfl ?_); at_builtin; refine Kd.R_append_rows (Kd.int .u8) (w0 := w) w.heap.size rfl (.tmp 19) (.tmp 20) 22 5 (.int .u8 0) 1 rfl Try.underlying22 info5 rfl zq37 zq57 v147 y146 x3_1 _ _ _ (fun k_ => some k_ ≠ (.slice Ao16 x3_1.length co16 : Value).ownBlock) (fun _ => False) rfl rfl ?aO ?aR (fun _ _ h => h) (fun _ h => h.elim) ?aF ?aB ?aS ?aL ?_; (case aR => repeat (first | exact (Kd.R_reads' HO_3.out).2.2 | (with_reducible refine Kd.C_alloc ?_ _) | (with_reducible refine Kd.C_drewN ?_ _) | (with_reducible refine Kd.C_drew ?_))); (case aB => exact zq0); (case aF => exact (fun k_ hk => Kd.fresh' (Kd.R_lt zq10) k_ hk)); (case aO => exact (by (with_reducible repeat (first | apply Kd.R_alloc | apply Kd.R_drewN | apply Kd.R_drew)); exact Kd.R_mono HO148.out (fun _ hk => hk.2))); (case aS => exact (below_size zq0)); (case aL => have := LMc12.out; omega); intro v150 w15 ho hb hg hat; rw [← Ny149.out] at ho; replace HO_3 := zA (Kd.R_after (ok := (fun _ => True)) zq10 hg hat); replace HB := zA (hb); have HO151 := zA (ho); clear HO148; clear ho hb hg hat))
    go_roundg k1
    case measure => have := HK1.out; omega
    case rel => exact ⟨(x0_1 / 256), (y149), zq8, H', ⟨zq49⟩, ⟨(by (with_reducible repeat (first | apply Kd.R_alloc | apply Kd.R_drewN | apply Kd.R_drew)); exact Kd.R_mono HO151.out (fun _ hk => trivial))⟩, ⟨zq0⟩⟩
   ·rw [if_neg c9] at H
    have c9b0 : decide (x0_1 < (-128)) = false := decide_eq_false c9
    clear c9
    by_cases c17 : x0_1 > 127
    ·rw [if_pos c17] at H
     have c17b0 : decide (127 < x0_1) = true := decide_eq_true c17
     clear c17
     have HC18 := zA H
     clear H
     go_upto_region 4 with (fail)
     have H := HC18.out
     clear HC18
     have HC19 := zA H
     clear H
     go_upto_region 5 with (fail)
     have H := HC19.out
     clear HC19
     obtain ⟨y152, Ny152, H⟩ := zS (([(x0_1 / 256) % 256] : List Int)) H
     obtain ⟨c20, H⟩ := zN H
     have LMc20 := zA c20
     clear c20
     obtain ⟨y155, hy155⟩ : ∃ y_ : List Int, y_ = (y152 ++ x3_1) := ⟨_, rfl⟩
     rw [← hy155] at H
     have Ny155 := zA hy155
     clear hy155
     have H' := zA H
     clear H
     go_wp2_with (first | ((with_reducible refine gate_dst (N := 19) rfl ?_); refine Kd.R_lit (Kd.int .u8) _ 5 ?hg (N := 19) ?hd (xs := ([(x0_1 / 256) % 256] : List Int)) (inner := [.int .u8 ((x0_1 / 256) % 256)]) (ok := fun _ => True) (okp := fun _ => True) ?hr ?hp (fun _ hk => hk) trivial (Below.refl _ _) (Nat.le_refl _) zq89 ?_; (case hd => rfl); (case hg => rfl); (case hr => first | (go_simp; done) | (go_simp; rfl)); (case hp => exact (Reps.one (show Kd.M (Kd.int .u8) _ _ _ ((x0_1 / 256) % 256) [.int .u8 ((x0_1 / 256) % 256)] from rfl) (Reps.none _ _))); intro v153 w21 ho22 hb hg_ hnew_; clear hg_ hnew_; (first | rw [← Ny152.out] at ho22 | (simp only [Int.reduceToNat] at ho22; rw [← Ny152.out] at ho22)); have HO154 := zA (Kd.R_lower (Kd.R_new' ho22 (Kd.R_lt zq10)) (below_size zq0)); replace HO_3 := zA (Kd.R_elder' zq10 (Kd.R_base ho22) hb); replace HB := zA (below_step zq0 hb); clear hb ho22; obtain ⟨Ao24, co24, eo24⟩ := Kd.R_slice HO_3.out; subst eo24) | ((with_reducible refine gate_builtin (b := .append) (xs := #[.tmp 19, .tmp 20]) rfl ?_); at_builtin; refine Kd.R_append_rows (Kd.int .u8) (w0 := w) w.heap.size rfl (.tmp 19) (.tmp 20) 22 5 (.int .u8 0) 1 rfl Try.underlying22 info5 rfl zq37 zq57 v153 y152 x3_1 _ _ _ (fun k_ => some k_ ≠ (.slice Ao24 x3_1.length co24 : Value).ownBlock) (fun _ => False) rfl rfl ?aO ?aR (fun _ _ h => h) (fun _ h => h.elim) ?aF ?aB ?aS ?aL ?_; (case aR => repeat (first | exact (Kd.R_reads' HO_3.out).2.2 | (with_reducible refine Kd.C_alloc ?_ _) | (with_reducible refine Kd.C_drewN ?_ _) | (with_reducible refine Kd.C_drew ?_))); (case aB => exact zq0); (case aF => exact (fun k_ hk => Kd.fresh' (Kd.R_lt zq10) k_ hk)); (case aO => exact (by (with_reducible repeat (first | apply Kd.R_alloc | apply Kd.R_drewN | apply Kd.R_drew)); exact Kd.R_mono HO154.out (fun _ hk => hk.2))); (case aS => exact (below_size zq0)); (case aL => have := LMc20.out; omega); intro v156 w23 ho hb hg hat; rw [← Ny155.out] at ho; replace HO_3 := zA (Kd.R_after (ok := (fun _ => True)) zq10 hg hat); replace HB := zA (hb); have HO157 := zA (ho); clear HO154; clear ho hb hg hat))
     go_roundg k1
     case measure => have := HK1.out; omega
     case rel => exact ⟨(x0_1 / 256), (y155), zq8, H', ⟨zq49⟩, ⟨(by (with_reducible repeat (first | apply Kd.R_alloc | apply Kd.R_drewN | apply Kd.R_drew)); exact Kd.R_mono HO157.out (fun _ hk => trivial))⟩, ⟨zq0⟩⟩
    ·rw [if_neg c17] at H
     have c17b0 : decide (127 < x0_1) = false := decide_eq_false c17
     clear c17
     have HC25 := zA H
     clear H
     go_upto_region 6 with (fail)
     have H := HC25.out
     clear HC25
     obtain rfl := Option.some.inj H
     go_wp2
     go_ret
     exact ⟨_, zq2, zq10, zq0⟩

/-! ### spec_l2Group: function 185 -/
def spec_l2Group.l0 : Nat → Int → List Int → Option (List Int)
 | 0, _, _ => none
 | k + 1, x0, x3 => if x0 > 127 then ((some (([(Go.bits .or .i64 (Go.bits .and .i64 (x0 / 128) 127) 128) % 256] : List Int) : List Int)).bind fun y161 => (if y161.length + x3.length < 140737488355328 then (spec_l2Group.l0 k (x0 / 128) (y161 ++ x3)) else (none))) else (some x3)
def spec_l2Group.f (k : Nat) (a0 : Int) : Option (List Int) := spec_l2Group.l0 k a0 (([(Go.bits .and .i64 a0 127) % 256] : List Int))
theorem spec_l2Group.mono_l : ∀ k, (∀ y0 y1, LeO (spec_l2Group.l0 k y0 y1) (spec_l2Group.l0 (k + 1) y0 y1))
 | 0 => fun _ _ r h => by simp [spec_l2Group.l0] at h
 | k + 1 => by
  have ih0 := spec_l2Group.mono_l k
  ·intro y0 y1
   unfold spec_l2Group.l0
   exact zR
theorem spec_l2Group.mono : ∀ a0 k, LeO (spec_l2Group.f k a0) (spec_l2Group.f (k + 1) a0) := by
 intro a0 k
 have ih0 := spec_l2Group.mono_l k
 unfold spec_l2Group.f
 exact zR
set_option maxHeartbeats 8000000 in
set_option maxRecDepth 100000 in
theorem spec_l2Group.calls (k : Nat) (a0 : Int) (r : List Int) (w : World) (h : spec_l2Group.f k a0 = some r) :
  Calls Try.prog 185 #[.int .i64 a0] w fun e w' => ∃ v0_ : Value, e = .returned (v0_) ∧ Kd.R (Kd.int .u8) 5 w' w.heap.size (fun _ => True) v0_ r ∧ Below w.heap.size w w' := by
 have HB := zA (Below.refl w.heap.size w)
 unfold spec_l2Group.f at h
 have H := h
 clear h
 have HC2 := zA H
 clear H
 go_enter Try.func185, Try.ntmps185
 go_upto_region 0 with (fail)
 have H := HC2.out
 clear HC2
 have HC3 := zA H
 clear H
 go_upto_region 1 with (fail)
 have H := HC3.out
 clear HC3
 obtain ⟨y158, hy158⟩ : ∃ y_ : List Int, y_ = (([(Go.bits .and .i64 a0 127) % 256] : List Int)) := ⟨_, rfl⟩
 rw [← hy158] at H
 have Ny158 := zA hy158
 clear hy158
 have H' := zA H
 clear H
 go_wp2_with (first | ((with_reducible refine gate_dst (N := 7) rfl ?_); refine Kd.R_lit (Kd.int .u8) _ 5 ?hg (N := 7) ?hd (xs := ([(Go.bits .and .i64 a0 127) % 256] : List Int)) (inner := [.int .u8 ((Go.bits .and .i64 a0 127) % 256)]) (ok := fun _ => True) (okp := fun _ => True) ?hr ?hp (fun _ hk => hk) trivial (Below.refl _ _) (Nat.le_refl _) zq89 ?_; (case hd => rfl); (case hg => rfl); (case hr => first | (go_simp; done) | (go_simp; rfl)); (case hp => exact (Reps.one (show Kd.M (Kd.int .u8) _ _ _ ((Go.bits .and .i64 a0 127) % 256) [.int .u8 ((Go.bits .and .i64 a0 127) % 256)] from rfl) (Reps.none _ _))); intro v159 w4 ho5 hb hg_ hnew_; clear hg_ hnew_; (first | rw [← Ny158.out] at ho5 | (simp only [Int.reduceToNat] at ho5; rw [← Ny158.out] at ho5)); have HO160 := zA (Kd.R_lower ho5 (below_size zq0)); replace HB := zA (below_step zq0 hb); clear hb ho5))
 go_loopg [0, 3] k (fun kq v0 v3 w' => ∃ (x0_1 : Int) (x3_1 : List Int), v0 = .int .i64 x0_1 ∧ Aside0 (spec_l2Group.l0 kq x0_1 x3_1 = some r) ∧ Aside0 (kq ≤ k) ∧ Aside0 (Kd.R (Kd.int .u8) 5 w' w.heap.size (fun _ => True) v3 x3_1) ∧ Aside0 (Below w.heap.size w w'))
 case atStart => exact ⟨(a0), (y158), zq8, H', ⟨Nat.le_refl _⟩, ⟨(by (with_reducible repeat (first | apply Kd.R_alloc | apply Kd.R_drewN | apply Kd.R_drew)); exact HO160.out)⟩, ⟨zq0⟩⟩
 case round =>
  clear H'
  try clear c1
  try clear p2
  obtain ⟨x0_1, x3_1, rfl, HA, HK1, HO_3, HB⟩ := hrel
  cases gk with
  | zero => exact absurd HA.out (by simp [spec_l2Group.l0])
  | succ k1 =>
   have H := HA.out
   clear HA
   simp only [spec_l2Group.l0] at H
   have HC6 := zA H
   clear H
   go_upto_region 2 with (fail)
   have H := HC6.out
   clear HC6
   by_cases c7 : x0_1 > 127
   ·rw [if_pos c7] at H
    have c7b0 : decide (127 < x0_1) = true := decide_eq_true c7
    clear c7
    have HC8 := zA H
    clear H
    go_upto_region 3 with (fail)
    have H := HC8.out
    clear HC8
    have HC9 := zA H
    clear H
    go_upto_region 4 with (fail)
    have H := HC9.out
    clear HC9
    obtain ⟨y161, Ny161, H⟩ := zS (([(Go.bits .or .i64 (Go.bits .and .i64 (x0_1 / 128) 127) 128) % 256] : List Int)) H
    obtain ⟨c10, H⟩ := zN H
    have LMc10 := zA c10
    clear c10
    obtain ⟨y164, hy164⟩ : ∃ y_ : List Int, y_ = (y161 ++ x3_1) := ⟨_, rfl⟩
    rw [← hy164] at H
    have Ny164 := zA hy164
    clear hy164
    have H' := zA H
    clear H
    go_wp2_with (first | ((with_reducible refine gate_dst (N := 16) rfl ?_); refine Kd.R_lit (Kd.int .u8) _ 5 ?hg (N := 16) ?hd (xs := ([(Go.bits .or .i64 (Go.bits .and .i64 (x0_1 / 128) 127) 128) % 256] : List Int)) (inner := [.int .u8 ((Go.bits .or .i64 (Go.bits .and .i64 (x0_1 / 128) 127) 128) % 256)]) (ok := fun _ => True) (okp := fun _ => True) ?hr ?hp (fun _ hk => hk) trivial (Below.refl _ _) (Nat.le_refl _) zq89 ?_; (case hd => rfl); (case hg => rfl); (case hr => first | (go_simp; done) | (go_simp; rfl)); (case hp => exact (Reps.one (show Kd.M (Kd.int .u8) _ _ _ ((Go.bits .or .i64 (Go.bits .and .i64 (x0_1 / 128) 127) 128) % 256) [.int .u8 ((Go.bits .or .i64 (Go.bits .and .i64 (x0_1 / 128) 127) 128) % 256)] from rfl) (Reps.none _ _))); intro v162 w11 ho12 hb hg_ hnew_; clear hg_ hnew_; (first | rw [← Ny161.out] at ho12 | (simp only [Int.reduceToNat] at ho12; rw [← Ny161.out] at ho12)); have HO163 := zA (Kd.R_lower (Kd.R_new' ho12 (Kd.R_lt zq10)) (below_size zq0)); replace HO_3 := zA (Kd.R_elder' zq10 (Kd.R_base ho12) hb); replace HB := zA (below_step zq0 hb); clear hb ho12; obtain ⟨Ao14, co14, eo14⟩ := Kd.R_slice HO_3.out; subst eo14) | ((with_reducible refine gate_builtin (b := .append) (xs := #[.tmp 16, .tmp 17]) rfl ?_); at_builtin; refine Kd.R_append_rows (Kd.int .u8) (w0 := w) w.heap.size rfl (.tmp 16) (.tmp 17) 22 5 (.int .u8 0) 1 rfl Try.underlying22 info5 rfl zq37 zq57 v162 y161 x3_1 _ _ _ (fun k_ => some k_ ≠ (.slice Ao14 x3_1.length co14 : Value).ownBlock) (fun _ => False) rfl rfl ?aO ?aR (fun _ _ h => h) (fun _ h => h.elim) ?aF ?aB ?aS ?aL ?_; (case aR => repeat (first | exact (Kd.R_reads' HO_3.out).2.2 | (with_reducible refine Kd.C_alloc ?_ _) | (with_reducible refine Kd.C_drewN ?_ _) | (with_reducible refine Kd.C_drew ?_))); (case aB => exact zq0); (case aF => exact (fun k_ hk => Kd.fresh' (Kd.R_lt zq10) k_ hk)); (case aO => exact (by (with_reducible repeat (first | apply Kd.R_alloc | apply Kd.R_drewN | apply Kd.R_drew)); exact Kd.R_mono HO163.out (fun _ hk => hk.2))); (case aS => exact (below_size zq0)); (case aL => have := LMc10.out; omega); intro v165 w13 ho hb hg hat; rw [← Ny164.out] at ho; replace HO_3 := zA (Kd.R_after (ok := (fun _ => True)) zq10 hg hat); replace HB := zA (hb); have HO166 := zA (ho); clear HO163; clear ho hb hg hat))
    go_roundg k1
    case measure => have := HK1.out; omega
    case rel => exact ⟨(x0_1 / 128), (y164), zq8, H', ⟨zq49⟩, ⟨(by (with_reducible repeat (first | apply Kd.R_alloc | apply Kd.R_drewN | apply Kd.R_drew)); exact Kd.R_mono HO166.out (fun _ hk => trivial))⟩, ⟨zq0⟩⟩
   ·rw [if_neg c7] at H
    have c7b0 : decide (127 < x0_1) = false := decide_eq_false c7
    clear c7
    have HC15 := zA H
    clear H
    go_upto_region 5 with (fail)
    have H := HC15.out
    clear HC15
    obtain rfl := Option.some.inj H
    go_wp2
    go_ret
    exact ⟨_, zq2, zq10, zq0⟩

/-! ### spec_PutOid: function 153 -/
def spec_PutOid.l0 : Nat → List Int → List Int → Int → Option (List Int)
 | 0, _, _, _ => none
 | k + 1, x0, x3, x4 => if x4 < (x0.length : Int) then (if 0 ≤ x4 then ((spec_l2Group.f k (rd x0 x4)).bind fun t172 => (if x3.length + t172.length < 140737488355328 then (spec_PutOid.l0 k x0 (x3 ++ t172) (wrap64 (x4 + 1))) else (none))) else (none)) else (some x3)
def spec_PutOid.f (k : Nat) (l0 : List Int) : Option (List Int) := (some (([] : List Int) : List Int)).bind fun y167 => ((spec_OidOk.f k l0).bind fun t170 => (if t170 = true then (spec_PutOid.l0 k l0 y167 0) else (some y167)))
theorem spec_PutOid.mono_l : ∀ k, (∀ y0 y1 y2, LeO (spec_PutOid.l0 k y0 y1 y2) (spec_PutOid.l0 (k + 1) y0 y1 y2))
 | 0 => fun _ _ _ r h => by simp [spec_PutOid.l0] at h
 | k + 1 => by
  have ih0 := spec_PutOid.mono_l k
  ·intro y0 y1 y2
   unfold spec_PutOid.l0
   have m0_ := @spec_OidOk.mono
   have m1_ := @spec_l2Group.mono
   exact zR
theorem spec_PutOid.mono : ∀ a0 k, LeO (spec_PutOid.f k a0) (spec_PutOid.f (k + 1) a0) := by
 intro a0 k
 have ih0 := spec_PutOid.mono_l k
 unfold spec_PutOid.f
 have m0_ := @spec_OidOk.mono
 have m1_ := @spec_l2Group.mono
 exact zR
set_option maxHeartbeats 8000000 in
set_option maxRecDepth 100000 in
theorem spec_PutOid.calls (k : Nat) (A0 : Option Addr) (c0 : Nat) (l0 : List Int) (r : List Int) (w : World) (hr0 : Kd.C (Kd.int .i64) w A0 l0.length l0) (hc0 : l0.length ≤ c0) (h : spec_PutOid.f k l0 = some r) :
  Calls Try.prog 153 #[.slice A0 l0.length c0] w fun e w' => ∃ v0_ : Value, e = .returned (v0_) ∧ Kd.R (Kd.int .u8) 5 w' w.heap.size (fun _ => True) v0_ r ∧ Below w.heap.size w w' := by
 have HR0 := zA hr0
 have HC0 := zA hc0
 clear hr0 hc0
 have HB := zA (Below.refl w.heap.size w)
 unfold spec_PutOid.f at h
 have H := h
 clear h
 have HC2 := zA H
 clear H
 go_enter Try.func153, Try.ntmps153
 go_upto_region 0 with (fail)
 have H := HC2.out
 clear HC2
 have HC3 := zA H
 clear H
 go_upto_region 1 with (fail)
 have H := HC3.out
 clear HC3
 obtain ⟨y167, Ny167, H⟩ := zS (([] : List Int)) H
 have HC4 := zA H
 clear H
 go_upto_region 2 with (first | ((with_reducible refine gate_dst (N := 5) rfl ?_); refine Kd.R_lit (Kd.int .u8) _ 5 ?hg (N := 5) ?hd (xs := ([] : List Int)) (inner := []) (ok := fun _ => True) (okp := fun _ => True) ?hr ?hp (fun _ hk => hk) trivial (Below.refl _ _) (Nat.le_refl _) zq89 ?_; (case hd => rfl); (case hg => rfl); (case hr => first | (go_simp; done) | (go_simp; rfl)); (case hp => exact (Reps.none _ _)); intro v168 w5 ho6 hb hg_ hnew_; clear hg_ hnew_; (first | rw [← Ny167.out] at ho6 | (simp only [Int.reduceToNat] at ho6; rw [← Ny167.out] at ho6)); have HO169 := zA (Kd.R_lower ho6 (below_size zq0)); replace HB := zA (below_step zq0 hb); clear hb ho6))
 (try simp only [Act.put, List.setIfInBounds_toArray, List.set_cons_zero, List.set_cons_succ])
 have H := HC4.out
 clear HC4
 obtain ⟨t170, A7, H⟩ := zB H
 try dsimp only at H
 by_cases c8 : t170 = true
 ·subst c8
  rw [if_pos rfl] at H
  have HC9 := zA H
  clear H
  go_upto_region 4 with (first | ((with_reducible refine gate_callee (f := 175) rfl ?_); refine goesL_ (some 7) rfl rfl Try.func175 (by kernel_rfl) rfl #[.slice A0 l0.length c0] rfl zq1 ?_; (with_reducible refine (spec_OidOk.calls k _ _ l0 true _ ?side1 ?side2 A7.out).mono ?_); (case side1 => repeat (first | exact (Kd.C_below HR0.out HB.out) | (with_reducible refine Kd.C_alloc ?_ _) | (with_reducible refine Kd.C_drewN ?_ _) | (with_reducible refine Kd.C_drew ?_))); (case side2 => exact HC0.out); rintro e w' ⟨rfl, ⟨nd, rfl⟩⟩; refine ⟨_, rfl, ?_⟩))
  (try simp only [Act.put, List.setIfInBounds_toArray, List.set_cons_zero, List.set_cons_succ])
  (try (rw [drewN_self w5]; generalize hq_ : World.drewN w5 _ = w5; replace HO169 := zA (Kd.R_at hq_ HO169.out); replace HB := zA (below_at hq_ HB.out); clear hq_))
  have H := HC9.out
  clear HC9
  have H' := zA H
  clear H
  go_wp2
  go_loopg [3, 4] k (fun kq v3 v4 w' => ∃ (x3_1 : List Int) (x4_1 : Int), v4 = .int .i64 x4_1 ∧ Aside0 (spec_PutOid.l0 kq l0 x3_1 x4_1 = some r) ∧ Aside0 (kq ≤ k) ∧ Aside0 (Kd.R (Kd.int .u8) 5 w' w.heap.size (fun _ => True) v3 x3_1) ∧ Aside0 (Below w.heap.size w w'))
  case atStart => exact ⟨(y167), (0), zq8, H', ⟨Nat.le_refl _⟩, ⟨zq78⟩, ⟨zq0⟩⟩
  case round =>
   clear H'
   try clear c1
   try clear p2
   try clear c8
   obtain ⟨x3_1, x4_1, rfl, HA, HK1, HO_3, HB⟩ := hrel
   cases gk with
   | zero => exact absurd HA.out (by simp [spec_PutOid.l0])
   | succ k1 =>
    have H := HA.out
    clear HA
    simp only [spec_PutOid.l0] at H
    have HC10 := zA H
    clear H
    go_upto_region 5 with (fail)
    have H := HC10.out
    clear HC10
    by_cases c11 : x4_1 < (l0.length : Int)
    ·rw [if_pos c11] at H
     have c11b0 : decide (x4_1 < (l0.length : Int)) = true := decide_eq_true c11
     clear c11
     have HC12 := zA H
     clear H
     go_upto_region 7 with (fail)
     have H := HC12.out
     clear HC12
     obtain ⟨c13, H⟩ := zN H
     have c13b0 : decide (0 ≤ x4_1) = true := decide_eq_true c13
     clear c13
     obtain ⟨t172, A14, H⟩ := zB H
     try dsimp only at H
     obtain ⟨c15, H⟩ := zN H
     have LMc15 := zA c15
     clear c15
     obtain ⟨y175, hy175⟩ : ∃ y_ : List Int, y_ = (x3_1 ++ t172) := ⟨_, rfl⟩
     rw [← hy175] at H
     have Ny175 := zA hy175
     clear hy175
     have HC16 := zA H
     clear H
     have p171 : 0 ≤ (x4_1 : Int) := of_decide_eq_true zq9
     have q171 : x4_1 < (l0.length : Int) := of_decide_eq_true zq9
     obtain ⟨ad171, e171, hx171_0⟩ := Kd.at_int HR0.out x4_1 p171 q171
     cases e171
     replace hx171_0 := (HB.out.cell (World.block_lt_of_cell? w _ hx171_0)).trans hx171_0
     replace p171 := eq_true p171
     replace q171 := eq_true q171
     go_upto_region 6 with (first | ((with_reducible refine gate_callee (f := 185) rfl ?_); refine goesL_ (some 21) rfl rfl Try.func185 (by kernel_rfl) rfl #[.int .i64 (rd l0 x4_1)] rfl zq1 ?_; (with_reducible refine (spec_l2Group.calls k1 (rd l0 x4_1) t172 _ A14.out).mono ?_); rintro e w17 ⟨v173, rfl, ho0, hb⟩; refine ⟨_, rfl, ?_⟩; have HO174 := zA (Kd.R_lower (Kd.R_new' ho0 (Kd.R_lt zq10)) (below_size zq0)); replace HO_3 := zA (Kd.R_elder' zq10 (Kd.R_base ho0) hb); replace HB := zA (below_step zq0 hb); clear hb ho0; obtain ⟨Ao19, co19, eo19⟩ := Kd.R_slice HO174.out; subst eo19) | ((with_reducible refine gate_builtin (b := .append) (xs := #[.tmp 16, .tmp 21]) rfl ?_); at_builtin; refine Kd.R_append_rows (Kd.int .u8) (w0 := w) w.heap.size rfl (.tmp 16) (.tmp 21) 22 5 (.int .u8 0) 1 rfl Try.underlying22 info5 rfl zq37 zq57 u3 x3_1 t172 _ _ _ (fun k_ => some k_ ≠ (.slice Ao19 t172.length co19 : Value).ownBlock) (fun _ => False) rfl rfl ?aO ?aR (fun _ _ h => h) (fun _ h => h.elim) ?aF ?aB ?aS ?aL ?_; (case aR => repeat (first | exact (Kd.R_reads' HO174.out).2.2 | (with_reducible refine Kd.C_alloc ?_ _) | (with_reducible refine Kd.C_drewN ?_ _) | (with_reducible refine Kd.C_drew ?_))); (case aB => exact zq0); (case aF => exact (fun k_ hk => Kd.fresh' (Kd.R_lt zq79) k_ hk)); (case aO => exact (by (with_reducible repeat (first | apply Kd.R_alloc | apply Kd.R_drewN | apply Kd.R_drew)); exact Kd.R_mono HO_3.out (fun _ hk => hk.2))); (case aS => exact (below_size zq0)); (case aL => have := LMc15.out; omega); intro v176 w18 ho hb hg hat; rw [← Ny175.out] at ho; replace HO174 := zA (Kd.R_after (ok := (fun _ => True)) zq79 hg hat); replace HB := zA (hb); have HO177 := zA (ho); clear HO_3; clear ho hb hg hat))
     (try simp only [Act.put, List.setIfInBounds_toArray, List.set_cons_zero, List.set_cons_succ])
     (try (rw [drewN_self w18]; generalize hq_ : World.drewN w18 _ = w18; replace HO174 := zA (Kd.R_at hq_ HO174.out); replace HO177 := zA (Kd.R_at hq_ HO177.out); replace HB := zA (below_at hq_ HB.out); clear hq_))
     have H := HC16.out
     clear HC16
     have H' := zA H
     clear H
     go_wp2
     go_roundg k1
     case measure => have := HK1.out; omega
     case rel => exact ⟨(y175), (wrap64 (x4_1 + 1)), zq8, H', ⟨zq49⟩, ⟨(by (with_reducible repeat (first | apply Kd.R_alloc | apply Kd.R_drewN | apply Kd.R_drew)); exact Kd.R_mono HO177.out (fun _ hk => trivial))⟩, ⟨zq0⟩⟩
    ·rw [if_neg c11] at H
     have c11b0 : decide (x4_1 < (l0.length : Int)) = false := decide_eq_false c11
     clear c11
     have HC20 := zA H
     clear H
     go_upto_region 8 with (fail)
     have H := HC20.out
     clear HC20
     obtain rfl := Option.some.inj H
     go_wp2
     go_ret
     exact ⟨_, zq2, zq10, zq0⟩
 ·replace c8 := Bool.eq_false_iff.mpr c8
  subst c8
  rw [if_neg zF] at H
  have HC21 := zA H
  clear H
  go_upto_region 3 with (first | ((with_reducible refine gate_callee (f := 175) rfl ?_); refine goesL_ (some 7) rfl rfl Try.func175 (by kernel_rfl) rfl #[.slice A0 l0.length c0] rfl zq1 ?_; (with_reducible refine (spec_OidOk.calls k _ _ l0 false _ ?side1 ?side2 A7.out).mono ?_); (case side1 => repeat (first | exact (Kd.C_below HR0.out HB.out) | (with_reducible refine Kd.C_alloc ?_ _) | (with_reducible refine Kd.C_drewN ?_ _) | (with_reducible refine Kd.C_drew ?_))); (case side2 => exact HC0.out); rintro e w' ⟨rfl, ⟨nd, rfl⟩⟩; refine ⟨_, rfl, ?_⟩))
  (try simp only [Act.put, List.setIfInBounds_toArray, List.set_cons_zero, List.set_cons_succ])
  (try (rw [drewN_self w5]; generalize hq_ : World.drewN w5 _ = w5; replace HO169 := zA (Kd.R_at hq_ HO169.out); replace HB := zA (below_at hq_ HB.out); clear hq_))
  have H := HC21.out
  clear HC21
  obtain rfl := Option.some.inj H
  go_wp2
  go_ret
  exact ⟨_, zq2, zq78, zq0⟩

/-! ### spec_PutVal: function 68 -/
def spec_PutVal.f (k : Nat) (l0 : List Int) (a1_0 : Int) (a1_1 : Int) (a1_2 : ByteArray) (l1_3 : List Int) : Option (List Int) := (spec_ValOk.f k a1_0 a1_1 a1_2 l1_3).bind fun t179 => (if t179 = true then (if a1_0 = 2 then ((spec_PutInt.f k a1_1).bind fun t189 => ((spec_PutTlv.f k l0 a1_0 t189).bind fun t192 => (some t192))) else (if a1_0 = 4 then (if a1_2.size ≤ 140737488355328 then ((spec_PutTlv.f k l0 a1_0 ((bytesOf a1_2 : List Int))).bind fun t198 => (some t198)) else (none)) else (if a1_0 = 6 then ((spec_PutOid.f k l1_3).bind fun t201 => ((spec_PutTlv.f k l0 a1_0 t201).bind fun t204 => (some t204))) else ((spec_PutTlv.f k l0 a1_0 (([] : List Int))).bind fun t207 => (some t207))))) else ((some (([] : List Int) : List Int)).bind fun y180 => (if y180.length + l0.length < 140737488355328 then (some (y180 ++ l0)) else (none))))
theorem spec_PutVal.mono : ∀ a0 a1 a2 a3 a4 k, LeO (spec_PutVal.f k a0 a1 a2 a3 a4) (spec_PutVal.f (k + 1) a0 a1 a2 a3 a4) := by
 intro a0 a1 a2 a3 a4 k
 unfold spec_PutVal.f
 have m0_ := @spec_PutInt.mono
 have m1_ := @spec_PutOid.mono
 have m2_ := @spec_PutTlv.mono
 have m3_ := @spec_ValOk.mono
 exact zR
set_option maxHeartbeats 8000000 in
set_option maxRecDepth 100000 in
theorem spec_PutVal.calls (k : Nat) (A0 : Option Addr) (c0 : Nat) (l0 : List Int) (a1_0 : Int) (a1_1 : Int) (a1_2 : ByteArray) (A1_3 : Option Addr) (c1_3 : Nat) (l1_3 : List Int) (r : List Int) (w : World) (hr0 : Kd.C (Kd.int .u8) w A0 l0.length l0) (hc0 : l0.length ≤ c0) (hr1_3 : Kd.C (Kd.int .i64) w A1_3 l1_3.length l1_3) (hc1_3 : l1_3.length ≤ c1_3) (h : spec_PutVal.f k l0 a1_0 a1_1 a1_2 l1_3 = some r) :
  Calls Try.prog 68 #[.slice A0 l0.length c0, .agg #[.int .i64 a1_0, .int .i64 a1_1, .string a1_2, .slice A1_3 l1_3.length c1_3]] w fun e w' => ∃ v0_ : Value, e = .returned (v0_) ∧ Kd.R (Kd.int .u8) 5 w' w.heap.size (fun _ => True) v0_ r ∧ Below w.heap.size w w' := by
 have hu76 := Try.underlying76
 have HR0 := zA hr0
 have HC0 := zA hc0
 clear hr0 hc0
 have HR1_3 := zA hr1_3
 have HC1_3 := zA hc1_3
 clear hr1_3 hc1_3
 have HB := zA (Below.refl w.heap.size w)
 unfold spec_PutVal.f at h
 have H := h
 clear h
 have HC3 := zA H
 clear H
 go_enter Try.func68, Try.ntmps68
 go_upto_region 0 with (fail)
 have H := HC3.out
 clear HC3
 have HC4 := zA H
 clear H
 go_upto_region 1 with (first | ((with_reducible refine gate_dst (N := 3) rfl ?_); refine box_event ?hg (N := 3) ?hd (cs := #[.int .i64 a1_0, .int .i64 a1_1, .string a1_2, .slice A1_3 l1_3.length c1_3]) (t := 76) ?hr ?_; (case hd => rfl); (case hg => rfl); (case hr => first | (go_simp; done) | (go_simp; rfl)); intro gb178 hg w5 hbox hb; have BK178 := zA (hbox); have GW178 := zA ((zq6 : w.heap.size ≤ gb178)); have GE178 := zA ((zq6 : w.heap.size ≤ gb178)); replace HB := zA (below_step zq0 hb); clear hb hbox hg))
 (try simp only [Act.put, List.setIfInBounds_toArray, List.set_cons_zero, List.set_cons_succ])
 have H := HC4.out
 clear HC4
 obtain ⟨t179, A6, H⟩ := zB H
 try dsimp only at H
 by_cases c7 : t179 = true
 ·subst c7
  rw [if_pos rfl] at H
  have HC8 := zA H
  clear H
  have hcz9_0 : w5.cell? ⟨gb178, 0, none⟩ = some (.int .i64 a1_0) := (blk_cell BK178.out 0).trans rfl
  have hcz9_1 : w5.cell? ⟨gb178, 1, none⟩ = some (.int .i64 a1_1) := (blk_cell BK178.out 1).trans rfl
  have hcz9_2 : w5.cell? ⟨gb178, 2, none⟩ = some (.string a1_2) := (blk_cell BK178.out 2).trans rfl
  have hcz9_3 : w5.cell? ⟨gb178, 3, none⟩ = some (.slice A1_3 l1_3.length c1_3) := (blk_cell BK178.out 3).trans rfl
  have hfz9_0 := blk_frozen BK178.out 0
  have hfz9_1 := blk_frozen BK178.out 1
  have hfz9_2 := blk_frozen BK178.out 2
  have hfz9_3 := blk_frozen BK178.out 3
  go_upto_region 3 with (first | ((with_reducible refine gate_callee (f := 91) rfl ?_); refine goesL_ (some 7) rfl rfl Try.func91 (by kernel_rfl) rfl #[.agg #[.int .i64 a1_0, .int .i64 a1_1, .string a1_2, .slice A1_3 l1_3.length c1_3]] rfl zq1 ?_; (with_reducible refine (spec_ValOk.calls k a1_0 a1_1 a1_2 _ _ l1_3 true _ ?side1 ?side2 A6.out).mono ?_); (case side1 => repeat (first | exact (Kd.C_below HR1_3.out HB.out) | (with_reducible refine Kd.C_alloc ?_ _) | (with_reducible refine Kd.C_drewN ?_ _) | (with_reducible refine Kd.C_drew ?_))); (case side2 => exact HC1_3.out); rintro e w10 ⟨rfl, hb⟩; refine ⟨_, rfl, ?_⟩; replace BK178 := zA (blk_below (g := gb178) (o := .cells #[.int .i64 a1_0, .int .i64 a1_1, .string a1_2, .slice A1_3 l1_3.length c1_3] 76 (0, 0)) zq19 hb); replace HB := zA (below_step zq4 hb); clear hb))
  (try simp only [Act.put, List.setIfInBounds_toArray, List.set_cons_zero, List.set_cons_succ])
  have H := HC8.out
  clear HC8
  obtain ⟨y186, hy186⟩ : ∃ y_ : List Int, y_ = (([] : List Int)) := ⟨_, rfl⟩
  rw [← hy186] at H
  have Ny186 := zA hy186
  clear hy186
  have HC11 := zA H
  clear H
  go_upto_region 4 with (first | ((with_reducible refine gate_dst (N := 12) rfl ?_); refine Kd.R_lit (Kd.int .u8) _ 5 ?hg (N := 12) ?hd (xs := ([] : List Int)) (inner := []) (ok := fun _ => True) (okp := fun _ => True) ?hr ?hp (fun _ hk => hk) trivial (Below.refl _ _) (Nat.le_refl _) zq89 ?_; (case hd => rfl); (case hg => rfl); (case hr => first | (go_simp; done) | (go_simp; rfl)); (case hp => exact (Reps.none _ _)); intro v187 w12 ho13 hb hg_ hnew_; clear hg_ hnew_; (first | rw [← Ny186.out] at ho13 | (simp only [Int.reduceToNat] at ho13; rw [← Ny186.out] at ho13)); have HO188 := zA (Kd.R_lower ho13 (below_size zq4)); replace BK178 := zA (blk_below (g := gb178) (o := .cells #[.int .i64 a1_0, .int .i64 a1_1, .string a1_2, .slice A1_3 l1_3.length c1_3] 76 (0, 0)) zq19 hb); replace HB := zA (below_step zq4 hb); clear hb ho13))
  (try simp only [Act.put, List.setIfInBounds_toArray, List.set_cons_zero, List.set_cons_succ])
  have H := HC11.out
  clear HC11
  have HC14 := zA H
  clear H
  have hcz15_0 : w12.cell? ⟨gb178, 0, none⟩ = some (.int .i64 a1_0) := (blk_cell BK178.out 0).trans rfl
  have hcz15_1 : w12.cell? ⟨gb178, 1, none⟩ = some (.int .i64 a1_1) := (blk_cell BK178.out 1).trans rfl
  have hcz15_2 : w12.cell? ⟨gb178, 2, none⟩ = some (.string a1_2) := (blk_cell BK178.out 2).trans rfl
  have hcz15_3 : w12.cell? ⟨gb178, 3, none⟩ = some (.slice A1_3 l1_3.length c1_3) := (blk_cell BK178.out 3).trans rfl
  have hfz15_0 := blk_frozen BK178.out 0
  have hfz15_1 := blk_frozen BK178.out 1
  have hfz15_2 := blk_frozen BK178.out 2
  have hfz15_3 := blk_frozen BK178.out 3
  go_upto_region 5 with (fail)
  have H := HC14.out
  clear HC14
  by_cases c16 : a1_0 = 2
  ·rw [if_pos c16] at H
   have c16b0 : (a1_0 == 2) = true := beq_iff_eq.mpr c16
   have c16b1 : (a1_0 != 2) = false := bne_eq_false_iff_eq.mpr c16
   clear c16
   have HC17 := zA H
   clear H
   go_upto_region 6 with (fail)
   have H := HC17.out
   clear HC17
   obtain ⟨t189, A18, H⟩ := zB H
   try dsimp only at H
   have HC19 := zA H
   clear H
   have hcz20_0 : w12.cell? ⟨gb178, 0, none⟩ = some (.int .i64 a1_0) := (blk_cell BK178.out 0).trans rfl
   have hcz20_1 : w12.cell? ⟨gb178, 1, none⟩ = some (.int .i64 a1_1) := (blk_cell BK178.out 1).trans rfl
   have hcz20_2 : w12.cell? ⟨gb178, 2, none⟩ = some (.string a1_2) := (blk_cell BK178.out 2).trans rfl
   have hcz20_3 : w12.cell? ⟨gb178, 3, none⟩ = some (.slice A1_3 l1_3.length c1_3) := (blk_cell BK178.out 3).trans rfl
   have hfz20_0 := blk_frozen BK178.out 0
   have hfz20_1 := blk_frozen BK178.out 1
   have hfz20_2 := blk_frozen BK178.out 2
   have hfz20_3 := blk_frozen BK178.out 3
   go_upto_region 11 with (first | ((with_reducible refine gate_callee (f := 152) rfl ?_); refine goesL_ (some 19) rfl rfl Try.func152 (by kernel_rfl) rfl #[.int .i64 a1_1] rfl zq1 ?_; (with_reducible refine (spec_PutInt.calls k a1_1 t189 _ A18.out).mono ?_); rintro e w21 ⟨v190, rfl, ho0, hb⟩; refine ⟨_, rfl, ?_⟩; have HO191 := zA (Kd.R_lower (Kd.R_new' ho0 (Kd.R_lt zq20)) (below_size zq4)); replace HO188 := zA (Kd.R_elder' zq20 (Kd.R_base ho0) hb); replace BK178 := zA (blk_below (g := gb178) (o := .cells #[.int .i64 a1_0, .int .i64 a1_1, .string a1_2, .slice A1_3 l1_3.length c1_3] 76 (0, 0)) zq19 hb); replace HB := zA (below_step zq4 hb); clear hb ho0))
   (try simp only [Act.put, List.setIfInBounds_toArray, List.set_cons_zero, List.set_cons_succ])
   have H := HC19.out
   clear HC19
   obtain ⟨t192, A22, H⟩ := zB H
   try dsimp only at H
   obtain rfl := Option.some.inj H
   have hcz23_0 : w21.cell? ⟨gb178, 0, none⟩ = some (.int .i64 a1_0) := (blk_cell BK178.out 0).trans rfl
   have hcz23_1 : w21.cell? ⟨gb178, 1, none⟩ = some (.int .i64 a1_1) := (blk_cell BK178.out 1).trans rfl
   have hcz23_2 : w21.cell? ⟨gb178, 2, none⟩ = some (.string a1_2) := (blk_cell BK178.out 2).trans rfl
   have hcz23_3 : w21.cell? ⟨gb178, 3, none⟩ = some (.slice A1_3 l1_3.length c1_3) := (blk_cell BK178.out 3).trans rfl
   have hfz23_0 := blk_frozen BK178.out 0
   have hfz23_1 := blk_frozen BK178.out 1
   have hfz23_2 := blk_frozen BK178.out 2
   have hfz23_3 := blk_frozen BK178.out 3
   obtain ⟨Ao24, co24, eo24⟩ := Kd.R_slice HO191.out
   subst eo24
   go_wp2_with (first | ((with_reducible refine gate_callee (f := 126) rfl ?_); refine goesL_ (some 34) rfl rfl Try.func126 (by kernel_rfl) rfl #[.slice A0 l0.length c0, .int .i64 a1_0, .slice Ao24 t189.length co24] rfl zq1 ?_; (with_reducible refine (spec_PutTlv.calls k _ _ l0 a1_0 _ _ t189 t192 _ ?side1 ?side2 ?side3 ?side4 A22.out).mono ?_); (case side1 => repeat (first | exact (Kd.C_below HR0.out HB.out) | (with_reducible refine Kd.C_alloc ?_ _) | (with_reducible refine Kd.C_drewN ?_ _) | (with_reducible refine Kd.C_drew ?_))); (case side2 => exact HC0.out); (case side3 => repeat (first | exact (Kd.R_reads' HO191.out).2.2 | (with_reducible refine Kd.C_alloc ?_ _) | (with_reducible refine Kd.C_drewN ?_ _) | (with_reducible refine Kd.C_drew ?_))); (case side4 => exact (Kd.R_reads' HO191.out).2.1); rintro e w25 ⟨v193, rfl, ho0, hb⟩; refine ⟨_, rfl, ?_⟩; have HO194 := zA (Kd.R_lower (Kd.R_new' (Kd.R_new' ho0 (Kd.R_lt zq20)) (Kd.R_lt zq80)) (below_size zq4)); replace HO188 := zA (Kd.R_elder' zq20 (Kd.R_base ho0) hb); replace HO191 := zA (Kd.R_elder' zq80 (Kd.R_base ho0) hb); replace BK178 := zA (blk_below (g := gb178) (o := .cells #[.int .i64 a1_0, .int .i64 a1_1, .string a1_2, .slice A1_3 l1_3.length c1_3] 76 (0, 0)) zq19 hb); replace HB := zA (below_step zq4 hb); clear hb ho0))
   go_ret
   exact ⟨_, zq2, (by (with_reducible repeat (first | apply Kd.R_alloc | apply Kd.R_drewN | apply Kd.R_drew)); exact Kd.R_mono HO194.out (fun _ hk => trivial)), zq4⟩
  ·rw [if_neg c16] at H
   have c16b0 : (a1_0 == 2) = false := beq_eq_false_iff_ne.mpr c16
   have c16b1 : (a1_0 != 2) = true := bne_iff_ne.mpr c16
   have HC26 := zA H
   clear H
   go_upto_region 7 with (fail)
   have H := HC26.out
   clear HC26
   by_cases c27 : a1_0 = 4
   ·rw [if_pos c27] at H
    have c27b0 : (a1_0 == 4) = true := beq_iff_eq.mpr c27
    have c27b1 : (a1_0 != 4) = false := bne_eq_false_iff_eq.mpr c27
    clear c27
    have HC28 := zA H
    clear H
    go_upto_region 8 with (fail)
    have H := HC28.out
    clear HC28
    obtain ⟨c29, H⟩ := zN H
    have c29b0 := eq_true c29
    have c29b1 : decide (a1_2.size ≤ 140737488355328) = true := decide_eq_true c29
    clear c29
    obtain ⟨y195, hy195⟩ : ∃ y_ : List Int, y_ = ((bytesOf a1_2 : List Int)) := ⟨_, rfl⟩
    rw [← hy195] at H
    have Ny195 := zA hy195
    clear hy195
    have HC30 := zA H
    clear H
    have hcz31_0 : w12.cell? ⟨gb178, 0, none⟩ = some (.int .i64 a1_0) := (blk_cell BK178.out 0).trans rfl
    have hcz31_1 : w12.cell? ⟨gb178, 1, none⟩ = some (.int .i64 a1_1) := (blk_cell BK178.out 1).trans rfl
    have hcz31_2 : w12.cell? ⟨gb178, 2, none⟩ = some (.string a1_2) := (blk_cell BK178.out 2).trans rfl
    have hcz31_3 : w12.cell? ⟨gb178, 3, none⟩ = some (.slice A1_3 l1_3.length c1_3) := (blk_cell BK178.out 3).trans rfl
    have hfz31_0 := blk_frozen BK178.out 0
    have hfz31_1 := blk_frozen BK178.out 1
    have hfz31_2 := blk_frozen BK178.out 2
    have hfz31_3 := blk_frozen BK178.out 3
    go_upto_region 11 with (first | ((with_reducible refine gate_dst (N := 24) rfl ?_); refine V_conv _ ?hg (N := 24) ?hd ?hx 9 22 5 ?ho Try.underlying9 Try.underlying22 Try.underlying5 a1_2 ?hr (ok := fun k_ => w12.heap.size ≤ k_) (Nat.le_refl _) ?hm (Below.refl _ _) (Nat.le_refl _) ?_; (case hd => rfl); (case hg => rfl); (case ho => rfl); (case hr => first | rfl | (go_simp; done) | (go_simp; rfl)); (case hm => exact of_decide_eq_true zq9); intro v196 w32 ho33 hb hg_ hnew_; clear hg_ hnew_; (first | rw [← Ny195.out] at ho33 | (simp only [Int.reduceToNat] at ho33; rw [← Ny195.out] at ho33)); have HO197 := zA (Kd.V_lower (Kd.V_mono (ok' := fun k_ => some k_ ≠ (v187 : Value).ownBlock ∧ k_ ≠ gb178) ho33 (fun k_ hk_ => ⟨(Kd.fresh' (Kd.R_lt zq20) k_ hk_), (Kd.freshB (g := gb178) (o := .cells #[.int .i64 a1_0, .int .i64 a1_1, .string a1_2, .slice A1_3 l1_3.length c1_3] 76 (0, 0)) zq19 k_ hk_)⟩)) (below_size zq4)); replace HO188 := zA (Kd.R_below zq20 hb); replace BK178 := zA (blk_below (g := gb178) (o := .cells #[.int .i64 a1_0, .int .i64 a1_1, .string a1_2, .slice A1_3 l1_3.length c1_3] 76 (0, 0)) zq19 hb); replace HB := zA (below_step zq4 hb); clear hb ho33))
    (try simp only [Act.put, List.setIfInBounds_toArray, List.set_cons_zero, List.set_cons_succ])
    (try (rw [drewN_self w32]; generalize hq_ : World.drewN w32 _ = w32; replace HO188 := zA (Kd.R_at hq_ HO188.out); replace HO197 := zA (Kd.V_at hq_ HO197.out); replace BK178 := zA (blk_at hq_ BK178.out); replace HB := zA (below_at hq_ HB.out); clear hq_))
    have H := HC30.out
    clear HC30
    obtain ⟨t198, A34, H⟩ := zB H
    try dsimp only at H
    obtain rfl := Option.some.inj H
    have hcz35_0 : w32.cell? ⟨gb178, 0, none⟩ = some (.int .i64 a1_0) := (blk_cell BK178.out 0).trans rfl
    have hcz35_1 : w32.cell? ⟨gb178, 1, none⟩ = some (.int .i64 a1_1) := (blk_cell BK178.out 1).trans rfl
    have hcz35_2 : w32.cell? ⟨gb178, 2, none⟩ = some (.string a1_2) := (blk_cell BK178.out 2).trans rfl
    have hcz35_3 : w32.cell? ⟨gb178, 3, none⟩ = some (.slice A1_3 l1_3.length c1_3) := (blk_cell BK178.out 3).trans rfl
    have hfz35_0 := blk_frozen BK178.out 0
    have hfz35_1 := blk_frozen BK178.out 1
    have hfz35_2 := blk_frozen BK178.out 2
    have hfz35_3 := blk_frozen BK178.out 3
    obtain ⟨Ao36, co36, eo36⟩ := Kd.V_slice HO197.out
    subst eo36
    go_wp2_with (first | ((with_reducible refine gate_callee (f := 126) rfl ?_); refine goesL_ (some 34) rfl rfl Try.func126 (by kernel_rfl) rfl #[.slice A0 l0.length c0, .int .i64 a1_0, .slice Ao36 y195.length co36] rfl zq1 ?_; (with_reducible refine (spec_PutTlv.calls k _ _ l0 a1_0 _ _ y195 t198 _ ?side1 ?side2 ?side3 ?side4 A34.out).mono ?_); (case side1 => repeat (first | exact (Kd.C_below HR0.out HB.out) | (with_reducible refine Kd.C_alloc ?_ _) | (with_reducible refine Kd.C_drewN ?_ _) | (with_reducible refine Kd.C_drew ?_))); (case side2 => exact HC0.out); (case side3 => repeat (first | exact (Kd.V_reads' HO197.out).2.2 | (with_reducible refine Kd.C_alloc ?_ _) | (with_reducible refine Kd.C_drewN ?_ _) | (with_reducible refine Kd.C_drew ?_))); (case side4 => exact (Kd.V_reads' HO197.out).2.1); rintro e w37 ⟨v199, rfl, ho0, hb⟩; refine ⟨_, rfl, ?_⟩; replace HO197 := zA (Kd.V_elder' (by (with_reducible repeat (first | apply Kd.V_alloc | apply Kd.V_drewN | apply Kd.V_drew)); exact HO197.out) (Kd.R_base ho0) hb); have HO200 := zA (Kd.R_lower (Kd.R_new' ho0 (Kd.R_lt zq20)) (below_size zq4)); replace HO188 := zA (Kd.R_elder' zq20 (Kd.R_base ho0) hb); replace BK178 := zA (blk_below (g := gb178) (o := .cells #[.int .i64 a1_0, .int .i64 a1_1, .string a1_2, .slice A1_3 l1_3.length c1_3] 76 (0, 0)) zq19 hb); replace HB := zA (below_step zq4 hb); clear hb ho0))
    go_ret
    exact ⟨_, zq2, (by (with_reducible repeat (first | apply Kd.R_alloc | apply Kd.R_drewN | apply Kd.R_drew)); exact Kd.R_mono HO200.out (fun _ hk => trivial)), zq4⟩
   ·rw [if_neg c27] at H
    have c27b0 : (a1_0 == 4) = false := beq_eq_false_iff_ne.mpr c27
    have c27b1 : (a1_0 != 4) = true := bne_iff_ne.mpr c27
    have HC38 := zA H
    clear H
    go_upto_region 9 with (fail)
    have H := HC38.out
    clear HC38
    by_cases c39 : a1_0 = 6
    ·rw [if_pos c39] at H
     have c39b0 : (a1_0 == 6) = true := beq_iff_eq.mpr c39
     have c39b1 : (a1_0 != 6) = false := bne_eq_false_iff_eq.mpr c39
     clear c39
     have HC40 := zA H
     clear H
     go_upto_region 10 with (fail)
     have H := HC40.out
     clear HC40
     obtain ⟨t201, A41, H⟩ := zB H
     try dsimp only at H
     have HC42 := zA H
     clear H
     have hcz43_0 : w12.cell? ⟨gb178, 0, none⟩ = some (.int .i64 a1_0) := (blk_cell BK178.out 0).trans rfl
     have hcz43_1 : w12.cell? ⟨gb178, 1, none⟩ = some (.int .i64 a1_1) := (blk_cell BK178.out 1).trans rfl
     have hcz43_2 : w12.cell? ⟨gb178, 2, none⟩ = some (.string a1_2) := (blk_cell BK178.out 2).trans rfl
     have hcz43_3 : w12.cell? ⟨gb178, 3, none⟩ = some (.slice A1_3 l1_3.length c1_3) := (blk_cell BK178.out 3).trans rfl
     have hfz43_0 := blk_frozen BK178.out 0
     have hfz43_1 := blk_frozen BK178.out 1
     have hfz43_2 := blk_frozen BK178.out 2
     have hfz43_3 := blk_frozen BK178.out 3
     go_upto_region 11 with (first | ((with_reducible refine gate_callee (f := 153) rfl ?_); refine goesL_ (some 29) rfl rfl Try.func153 (by kernel_rfl) rfl #[.slice A1_3 l1_3.length c1_3] rfl zq1 ?_; (with_reducible refine (spec_PutOid.calls k _ _ l1_3 t201 _ ?side1 ?side2 A41.out).mono ?_); (case side1 => repeat (first | exact (Kd.C_below HR1_3.out HB.out) | (with_reducible refine Kd.C_alloc ?_ _) | (with_reducible refine Kd.C_drewN ?_ _) | (with_reducible refine Kd.C_drew ?_))); (case side2 => exact HC1_3.out); rintro e w44 ⟨v202, rfl, ho0, hb⟩; refine ⟨_, rfl, ?_⟩; have HO203 := zA (Kd.R_lower (Kd.R_new' ho0 (Kd.R_lt zq20)) (below_size zq4)); replace HO188 := zA (Kd.R_elder' zq20 (Kd.R_base ho0) hb); replace BK178 := zA (blk_below (g := gb178) (o := .cells #[.int .i64 a1_0, .int .i64 a1_1, .string a1_2, .slice A1_3 l1_3.length c1_3] 76 (0, 0)) zq19 hb); replace HB := zA (below_step zq4 hb); clear hb ho0))
     (try simp only [Act.put, List.setIfInBounds_toArray, List.set_cons_zero, List.set_cons_succ])
     have H := HC42.out
     clear HC42
     obtain ⟨t204, A45, H⟩ := zB H
     try dsimp only at H
     obtain rfl := Option.some.inj H
     have hcz46_0 : w44.cell? ⟨gb178, 0, none⟩ = some (.int .i64 a1_0) := (blk_cell BK178.out 0).trans rfl
     have hcz46_1 : w44.cell? ⟨gb178, 1, none⟩ = some (.int .i64 a1_1) := (blk_cell BK178.out 1).trans rfl
     have hcz46_2 : w44.cell? ⟨gb178, 2, none⟩ = some (.string a1_2) := (blk_cell BK178.out 2).trans rfl
     have hcz46_3 : w44.cell? ⟨gb178, 3, none⟩ = some (.slice A1_3 l1_3.length c1_3) := (blk_cell BK178.out 3).trans rfl
     have hfz46_0 := blk_frozen BK178.out 0
     have hfz46_1 := blk_frozen BK178.out 1
     have hfz46_2 := blk_frozen BK178.out 2
     have hfz46_3 := blk_frozen BK178.out 3
     obtain ⟨Ao47, co47, eo47⟩ := Kd.R_slice HO203.out
     subst eo47
     go_wp2_with (first | ((with_reducible refine gate_callee (f := 126) rfl ?_); refine goesL_ (some 34) rfl rfl Try.func126 (by kernel_rfl) rfl #[.slice A0 l0.length c0, .int .i64 a1_0, .slice Ao47 t201.length co47] rfl zq1 ?_; (with_reducible refine (spec_PutTlv.calls k _ _ l0 a1_0 _ _ t201 t204 _ ?side1 ?side2 ?side3 ?side4 A45.out).mono ?_); (case side1 => repeat (first | exact (Kd.C_below HR0.out HB.out) | (with_reducible refine Kd.C_alloc ?_ _) | (with_reducible refine Kd.C_drewN ?_ _) | (with_reducible refine Kd.C_drew ?_))); (case side2 => exact HC0.out); (case side3 => repeat (first | exact (Kd.R_reads' HO203.out).2.2 | (with_reducible refine Kd.C_alloc ?_ _) | (with_reducible refine Kd.C_drewN ?_ _) | (with_reducible refine Kd.C_drew ?_))); (case side4 => exact (Kd.R_reads' HO203.out).2.1); rintro e w48 ⟨v205, rfl, ho0, hb⟩; refine ⟨_, rfl, ?_⟩; have HO206 := zA (Kd.R_lower (Kd.R_new' (Kd.R_new' ho0 (Kd.R_lt zq20)) (Kd.R_lt zq81)) (below_size zq4)); replace HO188 := zA (Kd.R_elder' zq20 (Kd.R_base ho0) hb); replace HO203 := zA (Kd.R_elder' zq81 (Kd.R_base ho0) hb); replace BK178 := zA (blk_below (g := gb178) (o := .cells #[.int .i64 a1_0, .int .i64 a1_1, .string a1_2, .slice A1_3 l1_3.length c1_3] 76 (0, 0)) zq19 hb); replace HB := zA (below_step zq4 hb); clear hb ho0))
     go_ret
     exact ⟨_, zq2, (by (with_reducible repeat (first | apply Kd.R_alloc | apply Kd.R_drewN | apply Kd.R_drew)); exact Kd.R_mono HO206.out (fun _ hk => trivial)), zq4⟩
    ·rw [if_neg c39] at H
     have c39b0 : (a1_0 == 6) = false := beq_eq_false_iff_ne.mpr c39
     have c39b1 : (a1_0 != 6) = true := bne_iff_ne.mpr c39
     have HC49 := zA H
     clear H
     go_upto_region 11 with (fail)
     have H := HC49.out
     clear HC49
     obtain ⟨t207, A50, H⟩ := zB H
     try dsimp only at H
     obtain rfl := Option.some.inj H
     have hcz51_0 : w12.cell? ⟨gb178, 0, none⟩ = some (.int .i64 a1_0) := (blk_cell BK178.out 0).trans rfl
     have hcz51_1 : w12.cell? ⟨gb178, 1, none⟩ = some (.int .i64 a1_1) := (blk_cell BK178.out 1).trans rfl
     have hcz51_2 : w12.cell? ⟨gb178, 2, none⟩ = some (.string a1_2) := (blk_cell BK178.out 2).trans rfl
     have hcz51_3 : w12.cell? ⟨gb178, 3, none⟩ = some (.slice A1_3 l1_3.length c1_3) := (blk_cell BK178.out 3).trans rfl
     have hfz51_0 := blk_frozen BK178.out 0
     have hfz51_1 := blk_frozen BK178.out 1
     have hfz51_2 := blk_frozen BK178.out 2
     have hfz51_3 := blk_frozen BK178.out 3
     obtain ⟨Ao52, co52, eo52⟩ := Kd.R_slice HO188.out
     subst eo52
     go_wp2_with (first | ((with_reducible refine gate_callee (f := 126) rfl ?_); refine goesL_ (some 34) rfl rfl Try.func126 (by kernel_rfl) rfl #[.slice A0 l0.length c0, .int .i64 a1_0, .slice Ao52 y186.length co52] rfl zq1 ?_; (with_reducible refine (spec_PutTlv.calls k _ _ l0 a1_0 _ _ y186 t207 _ ?side1 ?side2 ?side3 ?side4 A50.out).mono ?_); (case side1 => repeat (first | exact (Kd.C_below HR0.out HB.out) | (with_reducible refine Kd.C_alloc ?_ _) | (with_reducible refine Kd.C_drewN ?_ _) | (with_reducible refine Kd.C_drew ?_))); (case side2 => exact HC0.out); (case side3 => repeat (first | exact (Kd.R_reads' HO188.out).2.2 | (with_reducible refine Kd.C_alloc ?_ _) | (with_reducible refine Kd.C_drewN ?_ _) | (with_reducible refine Kd.C_drew ?_))); (case side4 => exact (Kd.R_reads' HO188.out).2.1); rintro e w53 ⟨v208, rfl, ho0, hb⟩; refine ⟨_, rfl, ?_⟩; have HO209 := zA (Kd.R_lower (Kd.R_new' ho0 (Kd.R_lt zq20)) (below_size zq4)); replace HO188 := zA (Kd.R_elder' zq20 (Kd.R_base ho0) hb); replace BK178 := zA (blk_below (g := gb178) (o := .cells #[.int .i64 a1_0, .int .i64 a1_1, .string a1_2, .slice A1_3 l1_3.length c1_3] 76 (0, 0)) zq19 hb); replace HB := zA (below_step zq4 hb); clear hb ho0))
     go_ret
     exact ⟨_, zq2, (by (with_reducible repeat (first | apply Kd.R_alloc | apply Kd.R_drewN | apply Kd.R_drew)); exact Kd.R_mono HO209.out (fun _ hk => trivial)), zq4⟩
 ·replace c7 := Bool.eq_false_iff.mpr c7
  subst c7
  rw [if_neg zF] at H
  have HC54 := zA H
  clear H
  have hcz55_0 : w5.cell? ⟨gb178, 0, none⟩ = some (.int .i64 a1_0) := (blk_cell BK178.out 0).trans rfl
  have hcz55_1 : w5.cell? ⟨gb178, 1, none⟩ = some (.int .i64 a1_1) := (blk_cell BK178.out 1).trans rfl
  have hcz55_2 : w5.cell? ⟨gb178, 2, none⟩ = some (.string a1_2) := (blk_cell BK178.out 2).trans rfl
  have hcz55_3 : w5.cell? ⟨gb178, 3, none⟩ = some (.slice A1_3 l1_3.length c1_3) := (blk_cell BK178.out 3).trans rfl
  have hfz55_0 := blk_frozen BK178.out 0
  have hfz55_1 := blk_frozen BK178.out 1
  have hfz55_2 := blk_frozen BK178.out 2
  have hfz55_3 := blk_frozen BK178.out 3
  go_upto_region 2 with (first | ((with_reducible refine gate_callee (f := 91) rfl ?_); refine goesL_ (some 7) rfl rfl Try.func91 (by kernel_rfl) rfl #[.agg #[.int .i64 a1_0, .int .i64 a1_1, .string a1_2, .slice A1_3 l1_3.length c1_3]] rfl zq1 ?_; (with_reducible refine (spec_ValOk.calls k a1_0 a1_1 a1_2 _ _ l1_3 false _ ?side1 ?side2 A6.out).mono ?_); (case side1 => repeat (first | exact (Kd.C_below HR1_3.out HB.out) | (with_reducible refine Kd.C_alloc ?_ _) | (with_reducible refine Kd.C_drewN ?_ _) | (with_reducible refine Kd.C_drew ?_))); (case side2 => exact HC1_3.out); rintro e w56 ⟨rfl, hb⟩; refine ⟨_, rfl, ?_⟩; replace BK178 := zA (blk_below (g := gb178) (o := .cells #[.int .i64 a1_0, .int .i64 a1_1, .string a1_2, .slice A1_3 l1_3.length c1_3] 76 (0, 0)) zq19 hb); replace HB := zA (below_step zq4 hb); clear hb))
  (try simp only [Act.put, List.setIfInBounds_toArray, List.set_cons_zero, List.set_cons_succ])
  have H := HC54.out
  clear HC54
  obtain ⟨y180, Ny180, H⟩ := zS (([] : List Int)) H
  obtain ⟨c57, H⟩ := zN H
  have LMc57 := zA c57
  clear c57
  obtain ⟨y183, hy183⟩ : ∃ y_ : List Int, y_ = (y180 ++ l0) := ⟨_, rfl⟩
  rw [← hy183] at H
  have Ny183 := zA hy183
  clear hy183
  obtain rfl := Option.some.inj H
  go_wp2_with (first | ((with_reducible refine gate_dst (N := 9) rfl ?_); refine Kd.R_lit (Kd.int .u8) _ 5 ?hg (N := 9) ?hd (xs := ([] : List Int)) (inner := []) (ok := fun _ => True) (okp := fun _ => True) ?hr ?hp (fun _ hk => hk) trivial (Below.refl _ _) (Nat.le_refl _) zq89 ?_; (case hd => rfl); (case hg => rfl); (case hr => first | (go_simp; done) | (go_simp; rfl)); (case hp => exact (Reps.none _ _)); intro v181 w58 ho59 hb hg_ hnew_; clear hg_ hnew_; (first | rw [← Ny180.out] at ho59 | (simp only [Int.reduceToNat] at ho59; rw [← Ny180.out] at ho59)); have HO182 := zA (Kd.R_lower ho59 (below_size zq4)); replace BK178 := zA (blk_below (g := gb178) (o := .cells #[.int .i64 a1_0, .int .i64 a1_1, .string a1_2, .slice A1_3 l1_3.length c1_3] 76 (0, 0)) zq19 hb); replace HB := zA (below_step zq4 hb); clear hb ho59) | ((with_reducible refine gate_builtin (b := .append) (xs := #[.tmp 9, .tmp 10]) rfl ?_); at_builtin; refine Kd.R_append_rows (Kd.int .u8) (w0 := w) w.heap.size rfl (.tmp 9) (.tmp 10) 22 5 (.int .u8 0) 1 rfl Try.underlying22 info5 rfl zq37 zq57 v181 y180 l0 _ _ _ (fun _ => True) (fun _ => False) rfl rfl ?aO ?aR (fun _ _ h => h) (fun _ h => h.elim) ?aF ?aB ?aS ?aL ?_; (case aR => repeat (first | exact (Kd.C_below HR0.out HB.out) | (with_reducible refine Kd.C_alloc ?_ _) | (with_reducible refine Kd.C_drewN ?_ _) | (with_reducible refine Kd.C_drew ?_))); (case aB => exact zq4); (case aF => exact (fun _ _ => trivial)); (case aO => exact (by (with_reducible repeat (first | apply Kd.R_alloc | apply Kd.R_drewN | apply Kd.R_drew)); exact HO182.out)); (case aS => exact (below_size zq4)); (case aL => have := LMc57.out; omega); intro v184 w60 ho hb hg hat; rw [← Ny183.out] at ho; replace BK178 := zA (blk_grown (g := gb178) (o := .cells #[.int .i64 a1_0, .int .i64 a1_1, .string a1_2, .slice A1_3 l1_3.length c1_3] 76 (0, 0)) zq19 hg (Kd.R_ne HO182.out BK178.out zq37)); replace HB := zA (hb); have HO185 := zA (ho); clear HO182; clear ho hb hg hat))
  go_ret
  exact ⟨_, zq2, (by (with_reducible repeat (first | apply Kd.R_alloc | apply Kd.R_drewN | apply Kd.R_drew)); exact HO185.out), zq4⟩

end Go.Proofs.Ytkcgghgkmgbphaa.PFnExactPutVal
