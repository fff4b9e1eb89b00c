-- WRITTEN BY a turned copy of the kit's printer (wip/patch_print.py), for this claim
import Derived.Test.YtkcgghgkmgbphaaPFnMsgsx0
import Derived.Test.YtkcgghgkmgbphaaPFnMsgsx3
namespace Go.Proofs.Ytkcgghgkmgbphaa.PFnMsgs
open Go.RowKit Go.Proofs.YtkcgghgkmgbphaaW.PrintWords Go.Proofs.YtkcgghgkmgbphaaW.PrintLast Go.Proofs.YtkcgghgkmgbphaaW.PrintMore
attribute [local go_sem] max2_int min2_int max_two min_two max_three min_three max_four min_four   -- for this text's walks alone
set_option linter.unusedVariables false
set_option linter.unusedSimpArgs false
set_option maxHeartbeats 8000000
set_option maxRecDepth 100000

/-! ### spec_PutTlv: function 126 -/
def spec_PutTlv.j0 : Nat → Int → List Int → List Int → Bool → Option (List Int)
 | 0, _, _, _, _ => none
 | k + 1, x1, x2, x7, x18 => if x18 = true then (some x7) else (if x7.length < 140737488355328 then ((some (x7 ++ [(x1) % 256] : List Int)).bind fun y139 => (if (x2.length : Int) > 127 then (if y139.length < 140737488355328 then ((some (y139 ++ [129] : List Int)).bind fun y142 => (if y142.length < 140737488355328 then ((some (y142 ++ [((x2.length : Int)) % 256] : List Int)).bind fun y145 => (if y145.length + x2.length < 140737488355328 then (some (y145 ++ x2)) else (none))) else (none))) else (none)) else (if y139.length < 140737488355328 then ((some (y139 ++ [((x2.length : Int)) % 256] : List Int)).bind fun y151 => (if y151.length + x2.length < 140737488355328 then (some (y151 ++ x2)) else (none))) else (none)))) else (none))
def spec_PutTlv.f (k : Nat) (l0 : List Int) (a1 : Int) (l2 : List Int) : Option (List Int) := (some (([] : List Int) : List Int)).bind fun y132 => (if y132.length + l0.length < 140737488355328 then ((some (y132 ++ l0 : List Int)).bind fun y135 => ((spec_l1In.f a1 0 255).bind fun t138 => (if t138 = true then (spec_PutTlv.j0 k a1 l2 y135 (decide ((l2.length : Int) > 250))) else (spec_PutTlv.j0 k a1 l2 y135 true)))) else (none))
theorem spec_PutTlv.mono_l : ∀ k, (∀ y0 y1 y2 y3, LeO (spec_PutTlv.j0 k y0 y1 y2 y3) (spec_PutTlv.j0 (k + 1) y0 y1 y2 y3))
 | 0 => fun _ _ _ _ r h => by simp [spec_PutTlv.j0] at h
 | k + 1 => by
  have ih0 := spec_PutTlv.mono_l k
  ·intro y0 y1 y2 y3
   unfold spec_PutTlv.j0
   exact zR
theorem spec_PutTlv.mono : ∀ a0 a1 a2 k, LeO (spec_PutTlv.f k a0 a1 a2) (spec_PutTlv.f (k + 1) a0 a1 a2) := by
 intro a0 a1 a2 k
 have ih0 := spec_PutTlv.mono_l k
 unfold spec_PutTlv.f
 exact zR
theorem spec_PutTlv.calls (k : Nat) (A0 : Option Addr) (c0 : Nat) (l0 : List Int) (a1 : Int) (A2 : Option Addr) (c2 : Nat) (l2 : List Int) (r : List Int) (w : World) (hr0 : Kd.C (Kd.int .u8) w A0 l0.length l0) (hc0 : l0.length ≤ c0) (hr2 : Kd.C (Kd.int .u8) w A2 l2.length l2) (hc2 : l2.length ≤ c2) (h : spec_PutTlv.f k l0 a1 l2 = some r) :
  Calls Try.prog 126 #[.slice A0 l0.length c0, .int .i64 a1, .slice A2 l2.length c2] w fun e w' => ∃ v0_ : Value, e = .returned (v0_) ∧ Kd.R (Kd.int .u8) 5 w' w.heap.size (fun _ => True) v0_ r ∧ Below w.heap.size w w' := by
 have HR0 := zA hr0
 have HC0 := zA hc0
 clear hr0 hc0
 have HR2 := zA hr2
 have HC2 := zA hc2
 clear hr2 hc2
 have HB := zA (Below.refl w.heap.size w)
 unfold spec_PutTlv.f at h
 have H := zA h
 clear h
 go_enter Try.func126, Try.ntmps126
 go_upto_region 0 with fail
 go_upto_region 1 with fail
 replace H := zS (([] : List Int)) H; obtain ⟨y132, Ny132, H⟩ := H
 replace H := zN H; obtain ⟨c6, H⟩ := H
 have LMc6 := zA c6
 clear c6
 replace H := zS (y132 ++ l0) H; obtain ⟨y135, Ny135, H⟩ := H
 go_upto_region 2 with (first | ((with_reducible refine gate_dst (N := 8) rfl ?_); (try (refine gate_guard zq94 ?_; dsimp only)); refine Kd.R_lit (Kd.int .u8) _ 5 ?hg (N := 8) ?hd (xs := ([] : List Int)) (inner := []) (ok := fun _ => True) (okp := fun _ => True) ?hr ?hp (fun _ hk => hk) trivial (Below.refl _ _) (Nat.le_refl _) zq219 ?_; (case hd => rfl); (case hg => rfl); (case hr => exact zgs); (case hp => exact (Reps.none _ _)); intro v133 w8 ho9 hb hg_ hnew_; clear hg_ hnew_; (first | rw [← Ny132.out] at ho9 | (simp only [Int.reduceToNat] at ho9; rw [← Ny132.out] at ho9)); have HO134 := zA (Kd.R_lower ho9 (below_size zq0)); replace HB := zA (below_step zq0 hb); clear hb ho9) | ((with_reducible refine gate_builtin (b := .append) (xs := #[.tmp 8, .tmp 9]) rfl ?_); (try (refine gate_guard zq94 ?_; dsimp only)); at_builtin; refine Kd.R_append_rows (Kd.int .u8) (w0 := w) w.heap.size rfl (.tmp 8) (.tmp 9) 22 5 (.int .u8 0) 1 rfl Try.underlying22 info5 rfl zq52 zq183 v133 y132 l0 _ _ _ (fun _ => True) (fun _ => False) rfl rfl ?aO ?aR (fun _ _ h => h) (fun _ h => h.elim) ?aF ?aB ?aS ?aL ?_; (case aR => exact zq18); (case aB => exact zq0); (case aF => exact (fun _ _ => trivial)); (case aO => exact (zrk HO134.out)); (case aS => exact (below_size zq0)); (case aL => have := LMc6.out; omega); intro v136 w10 ho hb hg hat; rw [← Ny135.out] at ho; replace HB := zA (hb); have HO137 := zA (ho); clear HO134; clear ho hb hg hat))
 (try simp only [zvs])
 (try (rw [drewN_self w10]; generalize hq_ : World.drewN w10 _ = w10; replace HO137 := zA (Kd.R_at hq_ HO137.out); replace HB := zA (below_at hq_ HB.out); clear hq_))
 go_upto_region 2 with fail
 go_cut [18] (fun v18 wc => ∃ (kq : Nat) (x18_10 : Bool), v18 = .bool x18_10 ∧ Aside0 (spec_PutTlv.j0 kq a1 l2 y135 x18_10 = some r) ∧ Aside0 (kq ≤ k) ∧ Aside0 (Kd.R (Kd.int .u8) 5 wc w.heap.size (fun _ => True) v136 y135) ∧ Aside0 (Below w.heap.size w wc))
 case first =>
  replace H := zB H; obtain ⟨t138, A12, H⟩ := H
  try dsimp only at H
  replace H := zE H; rcases H with ⟨rfl, H⟩ | ⟨rfl, H⟩
  ·have H' := H
   clear H
   go_wp2_with (first | ((with_reducible refine zg150 rfl ?_); refine zl150 (some 12) #[.int .i64 a1, .int .i64 0, .int .i64 255] ?_; (with_reducible refine (spec_l1In.calls a1 0 255 true _ A12.out).mono ?_); rintro e w' ⟨rfl, ⟨nd, rfl⟩⟩; refine ⟨_, rfl, ?_⟩))
   go_meet
   case rel => exact ⟨_, (decide ((l2.length : Int) > 250)), zq15, H', ⟨zq120⟩, ⟨(zrk HO137.out)⟩, ⟨zq0⟩⟩
  have H' := H
  clear H
  go_wp2_with (first | ((with_reducible refine zg150 rfl ?_); refine zl150 (some 12) #[.int .i64 a1, .int .i64 0, .int .i64 255] ?_; (with_reducible refine (spec_l1In.calls a1 0 255 false _ A12.out).mono ?_); rintro e w' ⟨rfl, ⟨nd, rfl⟩⟩; refine ⟨_, rfl, ?_⟩))
  go_meet
  case rel => exact ⟨_, (true), zq15, H', ⟨zq120⟩, ⟨(zrk HO137.out)⟩, ⟨zq0⟩⟩
 case rest =>
  try clear c1
  try clear c2
  try clear p2
  try clear c6
  try clear c12
  try clear c13
  obtain ⟨kq, x18_10, rfl, HA, HJ10, HO_7, HB⟩ := hcut
  cases kq with
  | zero => exact absurd HA.out (by simp [spec_PutTlv.j0])
  | succ kj10 =>
   have H := HA
   clear HA
   simp only [spec_PutTlv.j0] at H
   replace H := zE H; rcases H with ⟨rfl, H⟩ | ⟨rfl, H⟩
   ·go_upto_region 3 with fail
    obtain rfl := zi H
    go_wp2
    go_ret
    exact ⟨_, zq1, (zrk HO_7.out), zq0⟩
   go_upto_region 4 with fail
   replace H := zN H; obtain ⟨c17, H⟩ := H
   have LMc17 := zA c17
   clear c17
   replace H := zS (y135 ++ [(a1) % 256]) H; obtain ⟨y139, Ny139, H⟩ := H
   go_upto_region 5 with (first | ((with_reducible refine gate_builtin (b := .append) (xs := #[.tmp 20, .tmp 23]) rfl ?_); (try (refine gate_guard zq94 ?_; dsimp only)); at_builtin; refine Kd.R_append (Kd.int .u8) (w0 := w) w.heap.size rfl (.tmp 20) (.tmp 23) 22 5 (.int .u8 0) 1 rfl Try.underlying22 info5 rfl zq52 zq183 v136 y135 ((a1) % 256) [.int .u8 ((a1) % 256)] (fun _ => True) (fun _ => False) rfl rfl ?aP (fun _ hk => hk.elim) ?aF ?aO ?aB ?aS ?aL ?_; (case aP => exact rfl); (case aB => exact zq0); (case aF => exact (fun _ _ => trivial)); (case aO => exact (zrk HO_7.out)); (case aS => exact (below_size zq0)); (case aL => have := LMc17.out; omega); intro v140 w19 ho hb hg hat; rw [← Ny139.out] at ho; replace HB := zA (hb); have HO141 := zA (ho); clear HO_7; clear ho hb hg hat))
   (try simp only [zvs])
   (try (rw [drewN_self w19]; generalize hq_ : World.drewN w19 _ = w19; replace HO141 := zA (Kd.R_at hq_ HO141.out); replace HB := zA (below_at hq_ HB.out); clear hq_))
   replace H := zP H; rcases H with ⟨c20, H⟩ | ⟨c20, H⟩
   ·have c20b0 : decide (127 < (l2.length : Int)) = true := decide_eq_true c20
    have c20b1 : decide (127 < l2.length) = true := decide_eq_true zq183
    clear c20
    go_upto_region 6 with fail
    replace H := zN H; obtain ⟨c22, H⟩ := H
    have LMc22 := zA c22
    clear c22
    replace H := zS (y139 ++ [129]) H; obtain ⟨y142, Ny142, H⟩ := H
    go_upto_region 7 with (first | ((with_reducible refine gate_builtin (b := .append) (xs := #[.tmp 28, .tmp 29]) rfl ?_); (try (refine gate_guard zq94 ?_; dsimp only)); at_builtin; refine Kd.R_append (Kd.int .u8) (w0 := w) w.heap.size rfl (.tmp 28) (.tmp 29) 22 5 (.int .u8 0) 1 rfl Try.underlying22 info5 rfl zq52 zq183 v140 y139 129 [.int .u8 129] (fun _ => True) (fun _ => False) rfl rfl ?aP (fun _ hk => hk.elim) ?aF ?aO ?aB ?aS ?aL ?_; (case aP => exact rfl); (case aB => exact zq0); (case aF => exact (fun _ _ => trivial)); (case aO => exact (zrk HO141.out)); (case aS => exact (below_size zq0)); (case aL => have := LMc22.out; omega); intro v143 w24 ho hb hg hat; rw [← Ny142.out] at ho; replace HB := zA (hb); have HO144 := zA (ho); clear HO141; clear ho hb hg hat))
    (try simp only [zvs])
    (try (rw [drewN_self w24]; generalize hq_ : World.drewN w24 _ = w24; replace HO144 := zA (Kd.R_at hq_ HO144.out); replace HB := zA (below_at hq_ HB.out); clear hq_))
    replace H := zN H; obtain ⟨c25, H⟩ := H
    have LMc25 := zA c25
    clear c25
    replace H := zS (y142 ++ [((l2.length : Int)) % 256]) H; obtain ⟨y145, Ny145, H⟩ := H
    replace H := zN H; obtain ⟨c26, H⟩ := H
    have LMc26 := zA c26
    clear c26
    obtain ⟨y148, hy148⟩ : ∃ y_ : List Int, y_ = (y145 ++ l2) := ⟨_, rfl⟩
    rw [← hy148] at H
    have Ny148 := zA hy148
    clear hy148
    obtain rfl := zi H
    go_wp2_with (first | ((with_reducible refine gate_builtin (b := .append) (xs := #[.tmp 31, .tmp 35]) rfl ?_); (try (refine gate_guard zq94 ?_; dsimp only)); at_builtin; refine Kd.R_append (Kd.int .u8) (w0 := w) w.heap.size rfl (.tmp 31) (.tmp 35) 22 5 (.int .u8 0) 1 rfl Try.underlying22 info5 rfl zq52 zq183 v143 y142 (((l2.length : Int)) % 256) [.int .u8 (((l2.length : Int)) % 256)] (fun _ => True) (fun _ => False) rfl rfl ?aP (fun _ hk => hk.elim) ?aF ?aO ?aB ?aS ?aL ?_; (case aP => exact rfl); (case aB => exact zq0); (case aF => exact (fun _ _ => trivial)); (case aO => exact (zrk HO144.out)); (case aS => exact (below_size zq0)); (case aL => have := LMc25.out; omega); intro v146 w27 ho hb hg hat; rw [← Ny145.out] at ho; replace HB := zA (hb); have HO147 := zA (ho); clear HO144; clear ho hb hg hat) | ((with_reducible refine gate_builtin (b := .append) (xs := #[.tmp 36, .tmp 37]) rfl ?_); (try (refine gate_guard zq94 ?_; dsimp only)); at_builtin; refine Kd.R_append_rows (Kd.int .u8) (w0 := w) w.heap.size rfl (.tmp 36) (.tmp 37) 22 5 (.int .u8 0) 1 rfl Try.underlying22 info5 rfl zq52 zq183 v146 y145 l2 _ _ _ (fun _ => True) (fun _ => False) rfl rfl ?aO ?aR (fun _ _ h => h) (fun _ h => h.elim) ?aF ?aB ?aS ?aL ?_; (case aR => exact zq201); (case aB => exact zq0); (case aF => exact (fun _ _ => trivial)); (case aO => exact (zrk HO147.out)); (case aS => exact (below_size zq0)); (case aL => have := LMc26.out; omega); intro v149 w28 ho hb hg hat; rw [← Ny148.out] at ho; replace HB := zA (hb); have HO150 := zA (ho); clear HO147; clear ho hb hg hat))
    go_ret
    exact ⟨_, zq1, (zrk HO150.out), zq0⟩
   have c20b0 : decide (127 < (l2.length : Int)) = false := decide_eq_false c20
   have c20b1 : decide (127 < l2.length) = false := decide_eq_false zq183
   clear c20
   go_upto_region 7 with fail
   replace H := zN H; obtain ⟨c30, H⟩ := H
   have LMc30 := zA c30
   clear c30
   replace H := zS (y139 ++ [((l2.length : Int)) % 256]) H; obtain ⟨y151, Ny151, H⟩ := H
   replace H := zN H; obtain ⟨c31, H⟩ := H
   have LMc31 := zA c31
   clear c31
   obtain ⟨y154, hy154⟩ : ∃ y_ : List Int, y_ = (y151 ++ l2) := ⟨_, rfl⟩
   rw [← hy154] at H
   have Ny154 := zA hy154
   clear hy154
   obtain rfl := zi H
   go_wp2_with (first | ((with_reducible refine gate_builtin (b := .append) (xs := #[.tmp 31, .tmp 35]) rfl ?_); (try (refine gate_guard zq94 ?_; dsimp only)); at_builtin; refine Kd.R_append (Kd.int .u8) (w0 := w) w.heap.size rfl (.tmp 31) (.tmp 35) 22 5 (.int .u8 0) 1 rfl Try.underlying22 info5 rfl zq52 zq183 v140 y139 (((l2.length : Int)) % 256) [.int .u8 (((l2.length : Int)) % 256)] (fun _ => True) (fun _ => False) rfl rfl ?aP (fun _ hk => hk.elim) ?aF ?aO ?aB ?aS ?aL ?_; (case aP => exact rfl); (case aB => exact zq0); (case aF => exact (fun _ _ => trivial)); (case aO => exact (zrk HO141.out)); (case aS => exact (below_size zq0)); (case aL => have := LMc30.out; omega); intro v152 w32 ho hb hg hat; rw [← Ny151.out] at ho; replace HB := zA (hb); have HO153 := zA (ho); clear HO141; clear ho hb hg hat) | ((with_reducible refine gate_builtin (b := .append) (xs := #[.tmp 36, .tmp 37]) rfl ?_); (try (refine gate_guard zq94 ?_; dsimp only)); at_builtin; refine Kd.R_append_rows (Kd.int .u8) (w0 := w) w.heap.size rfl (.tmp 36) (.tmp 37) 22 5 (.int .u8 0) 1 rfl Try.underlying22 info5 rfl zq52 zq183 v152 y151 l2 _ _ _ (fun _ => True) (fun _ => False) rfl rfl ?aO ?aR (fun _ _ h => h) (fun _ h => h.elim) ?aF ?aB ?aS ?aL ?_; (case aR => exact zq201); (case aB => exact zq0); (case aF => exact (fun _ _ => trivial)); (case aO => exact (zrk HO153.out)); (case aS => exact (below_size zq0)); (case aL => have := LMc31.out; omega); intro v155 w33 ho hb hg hat; rw [← Ny154.out] at ho; replace HB := zA (hb); have HO156 := zA (ho); clear HO153; clear ho hb hg hat))
   go_ret
   exact ⟨_, zq1, (zrk HO156.out), zq0⟩

/-! ### spec_PutInt: function 152 -/
def spec_PutInt.l0 : Nat → Int → List Int → Option (List Int)
 | 0, _, _ => none
 | k + 1, x0, x3 => if x0 < (-128) then ((some (([(x0 / 256) % 256] : List Int) : List Int)).bind fun y161 => (if y161.length + x3.length < 140737488355328 then (spec_PutInt.l0 k (x0 / 256) (y161 ++ x3)) else (none))) else (if x0 > 127 then ((some (([(x0 / 256) % 256] : List Int) : List Int)).bind fun y167 => (if y167.length + x3.length < 140737488355328 then (spec_PutInt.l0 k (x0 / 256) (y167 ++ x3)) else (none))) else (some x3))
def spec_PutInt.f (k : Nat) (a0 : Int) : Option (List Int) := (spec_l1Clip.f a0).bind fun t157 => (spec_PutInt.l0 k t157 (([(t157) % 256] : List Int)))
theorem spec_PutInt.mono_l : ∀ k, (∀ y0 y1, LeO (spec_PutInt.l0 k y0 y1) (spec_PutInt.l0 (k + 1) y0 y1))
 | 0 => fun _ _ r h => by simp [spec_PutInt.l0] at h
 | k + 1 => by
  have ih0 := spec_PutInt.mono_l k
  ·intro y0 y1
   unfold spec_PutInt.l0
   exact zR
theorem spec_PutInt.mono : ∀ a0 k, LeO (spec_PutInt.f k a0) (spec_PutInt.f (k + 1) a0) := by
 intro a0 k
 have ih0 := spec_PutInt.mono_l k
 unfold spec_PutInt.f
 exact zR
theorem spec_PutInt.calls (k : Nat) (a0 : Int) (r : List Int) (w : World) (h : spec_PutInt.f k a0 = some r) :
  Calls Try.prog 152 #[.int .i64 a0] w fun e w' => ∃ v0_ : Value, e = .returned (v0_) ∧ Kd.R (Kd.int .u8) 5 w' w.heap.size (fun _ => True) v0_ r ∧ Below w.heap.size w w' := by
 have HB := zA (Below.refl w.heap.size w)
 unfold spec_PutInt.f at h
 have H := zA h
 clear h
 go_enter Try.func152, Try.ntmps152
 go_upto_region 0 with fail
 go_upto_region 1 with fail
 replace H := zB H; obtain ⟨t157, A4, H⟩ := H
 try dsimp only at H
 go_upto_region 2 with (first | ((with_reducible refine zg174 rfl ?_); refine zl174 (some 5) #[.int .i64 a0] ?_; (with_reducible refine (spec_l1Clip.calls a0 t157 _ A4.out).mono ?_); rintro e w' ⟨rfl, ⟨nd, rfl⟩⟩; refine ⟨_, rfl, ?_⟩))
 (try simp only [zvs])
 obtain ⟨y158, hy158⟩ : ∃ y_ : List Int, y_ = (([(t157) % 256] : List Int)) := ⟨_, rfl⟩
 rw [← hy158] at H
 have Ny158 := zA hy158
 clear hy158
 have H' := H; clear H
 go_wp2_with (first | ((with_reducible refine gate_dst (N := 8) rfl ?_); refine Kd.R_lit (Kd.int .u8) _ 5 ?hg (N := 8) ?hd (xs := ([(t157) % 256] : List Int)) (inner := [.int .u8 ((t157) % 256)]) (ok := fun _ => True) (okp := fun _ => True) ?hr ?hp (fun _ hk => hk) trivial (Below.refl _ _) (Nat.le_refl _) zq219 ?_; (case hd => rfl); (case hg => rfl); (case hr => exact zgs); (case hp => exact (Reps.one (show Kd.M (Kd.int .u8) _ _ _ ((t157) % 256) [.int .u8 ((t157) % 256)] from rfl) (Reps.none _ _))); intro v159 w6 ho7 hb hg_ hnew_; clear hg_ hnew_; (first | rw [← Ny158.out] at ho7 | (simp only [Int.reduceToNat] at ho7; rw [← Ny158.out] at ho7)); have HO160 := zA (Kd.R_lower ho7 (below_size zq0)); replace HB := zA (below_step zq0 hb); clear hb ho7))
 go_loopg [0, 3] k (fun kq v0 v3 w' => ∃ (x0_1 : Int) (x3_1 : List Int), v0 = .int .i64 x0_1 ∧ Aside0 (spec_PutInt.l0 kq x0_1 x3_1 = some r) ∧ Aside0 (kq ≤ k) ∧ Aside0 (Kd.R (Kd.int .u8) 5 w' w.heap.size (fun _ => True) v3 x3_1) ∧ Aside0 (Below w.heap.size w w'))
 case atStart => exact ⟨(t157), (y158), zq15, H', ⟨Nat.le_refl _⟩, ⟨(zrk HO160.out)⟩, ⟨zq0⟩⟩
 case round =>
  clear H'
  try clear c1
  try clear p2
  obtain ⟨x0_1, x3_1, rfl, HA, HK1, HO_3, HB⟩ := hrel
  cases gk with
  | zero => exact absurd HA.out (by simp [spec_PutInt.l0])
  | succ k1 =>
   have H := HA
   clear HA
   simp only [spec_PutInt.l0] at H
   go_upto_region 3 with fail
   replace H := zPd H; rcases H with ⟨c9b0, H⟩ | ⟨c9b0, H⟩
   ·go_upto_region 4 with fail
    go_upto_region 5 with fail
    replace H := zS (([(x0_1 / 256) % 256] : List Int)) H; obtain ⟨y161, Ny161, H⟩ := H
    replace H := zN H; obtain ⟨c12, H⟩ := H
    have LMc12 := zA c12
    clear c12
    obtain ⟨y164, hy164⟩ : ∃ y_ : List Int, y_ = (y161 ++ x3_1) := ⟨_, rfl⟩
    rw [← hy164] at H
    have Ny164 := zA hy164
    clear hy164
    have H' := H; clear H
    go_wp2_with (first | ((with_reducible refine gate_dst (N := 19) rfl ?_); refine Kd.R_lit (Kd.int .u8) _ 5 ?hg (N := 19) ?hd (xs := ([(x0_1 / 256) % 256] : List Int)) (inner := [.int .u8 ((x0_1 / 256) % 256)]) (ok := fun _ => True) (okp := fun _ => True) ?hr ?hp (fun _ hk => hk) trivial (Below.refl _ _) (Nat.le_refl _) zq219 ?_; (case hd => rfl); (case hg => rfl); (case hr => exact zgs); (case hp => exact (Reps.one (show Kd.M (Kd.int .u8) _ _ _ ((x0_1 / 256) % 256) [.int .u8 ((x0_1 / 256) % 256)] from rfl) (Reps.none _ _))); intro v162 w13 ho14 hb hg_ hnew_; clear hg_ hnew_; (first | rw [← Ny161.out] at ho14 | (simp only [Int.reduceToNat] at ho14; rw [← Ny161.out] at ho14)); have HO163 := zA (Kd.R_lower (Kd.R_new' ho14 (Kd.R_lt zq8)) (below_size zq0)); replace HO_3 := zA (Kd.R_elder' zq8 (Kd.R_base ho14) hb); replace HB := zA (below_step zq0 hb); clear hb ho14; obtain ⟨Ao16, co16, eo16⟩ := Kd.R_slice HO_3.out; subst eo16) | ((with_reducible refine gate_builtin (b := .append) (xs := #[.tmp 19, .tmp 20]) rfl ?_); at_builtin; refine Kd.R_append_rows (Kd.int .u8) (w0 := w) w.heap.size rfl (.tmp 19) (.tmp 20) 22 5 (.int .u8 0) 1 rfl Try.underlying22 info5 rfl zq52 zq183 v162 y161 x3_1 _ _ _ (fun k_ => some k_ ≠ (.slice Ao16 x3_1.length co16 : Value).ownBlock) (fun _ => False) rfl rfl ?aO ?aR (fun _ _ h => h) (fun _ h => h.elim) ?aF ?aB ?aS ?aL ?_; (case aR => exact zq138); (case aB => exact zq0); (case aF => exact (fun k_ hk => Kd.fresh' (Kd.R_lt zq8) k_ hk)); (case aO => exact (by (with_reducible repeat (first | apply Kd.R_alloc | apply Kd.R_drewN | apply Kd.R_drew)); exact Kd.R_mono HO163.out (fun _ hk => hk.2))); (case aS => exact (below_size zq0)); (case aL => have := LMc12.out; omega); intro v165 w15 ho hb hg hat; rw [← Ny164.out] at ho; replace HO_3 := zA (Kd.R_after (ok := (fun _ => True)) zq8 hg hat); replace HB := zA (hb); have HO166 := zA (ho); clear HO163; clear ho hb hg hat))
    go_roundg k1
    case measure => have := HK1.out; omega
    case rel => exact ⟨(x0_1 / 256), (y164), zq15, H', ⟨zq182⟩, ⟨(by (with_reducible repeat (first | apply Kd.R_alloc | apply Kd.R_drewN | apply Kd.R_drew)); exact Kd.R_mono HO166.out (fun _ hk => trivial))⟩, ⟨zq0⟩⟩
   replace H := zPd H; rcases H with ⟨c17b0, H⟩ | ⟨c17b0, H⟩
   ·go_upto_region 4 with fail
    go_upto_region 5 with fail
    replace H := zS (([(x0_1 / 256) % 256] : List Int)) H; obtain ⟨y167, Ny167, H⟩ := H
    replace H := zN H; obtain ⟨c20, H⟩ := H
    have LMc20 := zA c20
    clear c20
    obtain ⟨y170, hy170⟩ : ∃ y_ : List Int, y_ = (y167 ++ x3_1) := ⟨_, rfl⟩
    rw [← hy170] at H
    have Ny170 := zA hy170
    clear hy170
    have H' := H; clear H
    go_wp2_with (first | ((with_reducible refine gate_dst (N := 19) rfl ?_); refine Kd.R_lit (Kd.int .u8) _ 5 ?hg (N := 19) ?hd (xs := ([(x0_1 / 256) % 256] : List Int)) (inner := [.int .u8 ((x0_1 / 256) % 256)]) (ok := fun _ => True) (okp := fun _ => True) ?hr ?hp (fun _ hk => hk) trivial (Below.refl _ _) (Nat.le_refl _) zq219 ?_; (case hd => rfl); (case hg => rfl); (case hr => exact zgs); (case hp => exact (Reps.one (show Kd.M (Kd.int .u8) _ _ _ ((x0_1 / 256) % 256) [.int .u8 ((x0_1 / 256) % 256)] from rfl) (Reps.none _ _))); intro v168 w21 ho22 hb hg_ hnew_; clear hg_ hnew_; (first | rw [← Ny167.out] at ho22 | (simp only [Int.reduceToNat] at ho22; rw [← Ny167.out] at ho22)); have HO169 := zA (Kd.R_lower (Kd.R_new' ho22 (Kd.R_lt zq8)) (below_size zq0)); replace HO_3 := zA (Kd.R_elder' zq8 (Kd.R_base ho22) hb); replace HB := zA (below_step zq0 hb); clear hb ho22; obtain ⟨Ao24, co24, eo24⟩ := Kd.R_slice HO_3.out; subst eo24) | ((with_reducible refine gate_builtin (b := .append) (xs := #[.tmp 19, .tmp 20]) rfl ?_); at_builtin; refine Kd.R_append_rows (Kd.int .u8) (w0 := w) w.heap.size rfl (.tmp 19) (.tmp 20) 22 5 (.int .u8 0) 1 rfl Try.underlying22 info5 rfl zq52 zq183 v168 y167 x3_1 _ _ _ (fun k_ => some k_ ≠ (.slice Ao24 x3_1.length co24 : Value).ownBlock) (fun _ => False) rfl rfl ?aO ?aR (fun _ _ h => h) (fun _ h => h.elim) ?aF ?aB ?aS ?aL ?_; (case aR => exact zq138); (case aB => exact zq0); (case aF => exact (fun k_ hk => Kd.fresh' (Kd.R_lt zq8) k_ hk)); (case aO => exact (by (with_reducible repeat (first | apply Kd.R_alloc | apply Kd.R_drewN | apply Kd.R_drew)); exact Kd.R_mono HO169.out (fun _ hk => hk.2))); (case aS => exact (below_size zq0)); (case aL => have := LMc20.out; omega); intro v171 w23 ho hb hg hat; rw [← Ny170.out] at ho; replace HO_3 := zA (Kd.R_after (ok := (fun _ => True)) zq8 hg hat); replace HB := zA (hb); have HO172 := zA (ho); clear HO169; clear ho hb hg hat))
    go_roundg k1
    case measure => have := HK1.out; omega
    case rel => exact ⟨(x0_1 / 256), (y170), zq15, H', ⟨zq182⟩, ⟨(by (with_reducible repeat (first | apply Kd.R_alloc | apply Kd.R_drewN | apply Kd.R_drew)); exact Kd.R_mono HO172.out (fun _ hk => trivial))⟩, ⟨zq0⟩⟩
   go_upto_region 6 with fail
   obtain rfl := zi H
   go_wp2
   go_ret
   exact ⟨_, zq1, zq8, zq0⟩

/-! ### spec_l2Group: function 185 -/
def spec_l2Group.l0 : Nat → Int → List Int → Option (List Int)
 | 0, _, _ => none
 | k + 1, x0, x3 => if x0 > 127 then ((some (([(Go.bits .or .i64 (Go.bits .and .i64 (x0 / 128) 127) 128) % 256] : List Int) : List Int)).bind fun y176 => (if y176.length + x3.length < 140737488355328 then (spec_l2Group.l0 k (x0 / 128) (y176 ++ x3)) else (none))) else (some x3)
def spec_l2Group.f (k : Nat) (a0 : Int) : Option (List Int) := spec_l2Group.l0 k a0 (([(Go.bits .and .i64 a0 127) % 256] : List Int))
theorem spec_l2Group.mono_l : ∀ k, (∀ y0 y1, LeO (spec_l2Group.l0 k y0 y1) (spec_l2Group.l0 (k + 1) y0 y1))
 | 0 => fun _ _ r h => by simp [spec_l2Group.l0] at h
 | k + 1 => by
  have ih0 := spec_l2Group.mono_l k
  ·intro y0 y1
   unfold spec_l2Group.l0
   exact zR
theorem spec_l2Group.mono : ∀ a0 k, LeO (spec_l2Group.f k a0) (spec_l2Group.f (k + 1) a0) := by
 intro a0 k
 have ih0 := spec_l2Group.mono_l k
 unfold spec_l2Group.f
 exact zR
theorem spec_l2Group.calls (k : Nat) (a0 : Int) (r : List Int) (w : World) (h : spec_l2Group.f k a0 = some r) :
  Calls Try.prog 185 #[.int .i64 a0] w fun e w' => ∃ v0_ : Value, e = .returned (v0_) ∧ Kd.R (Kd.int .u8) 5 w' w.heap.size (fun _ => True) v0_ r ∧ Below w.heap.size w w' := by
 have HB := zA (Below.refl w.heap.size w)
 unfold spec_l2Group.f at h
 have H := zA h
 clear h
 go_enter Try.func185, Try.ntmps185
 go_upto_region 0 with fail
 go_upto_region 1 with fail
 obtain ⟨y173, hy173⟩ : ∃ y_ : List Int, y_ = (([(Go.bits .and .i64 a0 127) % 256] : List Int)) := ⟨_, rfl⟩
 rw [← hy173] at H
 have Ny173 := zA hy173
 clear hy173
 have H' := H; clear H
 go_wp2_with (first | ((with_reducible refine gate_dst (N := 7) rfl ?_); refine Kd.R_lit (Kd.int .u8) _ 5 ?hg (N := 7) ?hd (xs := ([(Go.bits .and .i64 a0 127) % 256] : List Int)) (inner := [.int .u8 ((Go.bits .and .i64 a0 127) % 256)]) (ok := fun _ => True) (okp := fun _ => True) ?hr ?hp (fun _ hk => hk) trivial (Below.refl _ _) (Nat.le_refl _) zq219 ?_; (case hd => rfl); (case hg => rfl); (case hr => exact zgs); (case hp => exact (Reps.one (show Kd.M (Kd.int .u8) _ _ _ ((Go.bits .and .i64 a0 127) % 256) [.int .u8 ((Go.bits .and .i64 a0 127) % 256)] from rfl) (Reps.none _ _))); intro v174 w4 ho5 hb hg_ hnew_; clear hg_ hnew_; (first | rw [← Ny173.out] at ho5 | (simp only [Int.reduceToNat] at ho5; rw [← Ny173.out] at ho5)); have HO175 := zA (Kd.R_lower ho5 (below_size zq0)); replace HB := zA (below_step zq0 hb); clear hb ho5))
 go_loopg [0, 3] k (fun kq v0 v3 w' => ∃ (x0_1 : Int) (x3_1 : List Int), v0 = .int .i64 x0_1 ∧ Aside0 (spec_l2Group.l0 kq x0_1 x3_1 = some r) ∧ Aside0 (kq ≤ k) ∧ Aside0 (Kd.R (Kd.int .u8) 5 w' w.heap.size (fun _ => True) v3 x3_1) ∧ Aside0 (Below w.heap.size w w'))
 case atStart => exact ⟨(a0), (y173), zq15, H', ⟨Nat.le_refl _⟩, ⟨(zrk HO175.out)⟩, ⟨zq0⟩⟩
 case round =>
  clear H'
  try clear c1
  try clear p2
  obtain ⟨x0_1, x3_1, rfl, HA, HK1, HO_3, HB⟩ := hrel
  cases gk with
  | zero => exact absurd HA.out (by simp [spec_l2Group.l0])
  | succ k1 =>
   have H := HA
   clear HA
   simp only [spec_l2Group.l0] at H
   go_upto_region 2 with fail
   replace H := zPd H; rcases H with ⟨c7b0, H⟩ | ⟨c7b0, H⟩
   ·go_upto_region 3 with fail
    go_upto_region 4 with fail
    replace H := zS (([(Go.bits .or .i64 (Go.bits .and .i64 (x0_1 / 128) 127) 128) % 256] : List Int)) H; obtain ⟨y176, Ny176, H⟩ := H
    replace H := zN H; obtain ⟨c10, H⟩ := H
    have LMc10 := zA c10
    clear c10
    obtain ⟨y179, hy179⟩ : ∃ y_ : List Int, y_ = (y176 ++ x3_1) := ⟨_, rfl⟩
    rw [← hy179] at H
    have Ny179 := zA hy179
    clear hy179
    have H' := H; clear H
    go_wp2_with (first | ((with_reducible refine gate_dst (N := 16) rfl ?_); refine Kd.R_lit (Kd.int .u8) _ 5 ?hg (N := 16) ?hd (xs := ([(Go.bits .or .i64 (Go.bits .and .i64 (x0_1 / 128) 127) 128) % 256] : List Int)) (inner := [.int .u8 ((Go.bits .or .i64 (Go.bits .and .i64 (x0_1 / 128) 127) 128) % 256)]) (ok := fun _ => True) (okp := fun _ => True) ?hr ?hp (fun _ hk => hk) trivial (Below.refl _ _) (Nat.le_refl _) zq219 ?_; (case hd => rfl); (case hg => rfl); (case hr => exact zgs); (case hp => exact (Reps.one (show Kd.M (Kd.int .u8) _ _ _ ((Go.bits .or .i64 (Go.bits .and .i64 (x0_1 / 128) 127) 128) % 256) [.int .u8 ((Go.bits .or .i64 (Go.bits .and .i64 (x0_1 / 128) 127) 128) % 256)] from rfl) (Reps.none _ _))); intro v177 w11 ho12 hb hg_ hnew_; clear hg_ hnew_; (first | rw [← Ny176.out] at ho12 | (simp only [Int.reduceToNat] at ho12; rw [← Ny176.out] at ho12)); have HO178 := zA (Kd.R_lower (Kd.R_new' ho12 (Kd.R_lt zq8)) (below_size zq0)); replace HO_3 := zA (Kd.R_elder' zq8 (Kd.R_base ho12) hb); replace HB := zA (below_step zq0 hb); clear hb ho12; obtain ⟨Ao14, co14, eo14⟩ := Kd.R_slice HO_3.out; subst eo14) | ((with_reducible refine gate_builtin (b := .append) (xs := #[.tmp 16, .tmp 17]) rfl ?_); at_builtin; refine Kd.R_append_rows (Kd.int .u8) (w0 := w) w.heap.size rfl (.tmp 16) (.tmp 17) 22 5 (.int .u8 0) 1 rfl Try.underlying22 info5 rfl zq52 zq183 v177 y176 x3_1 _ _ _ (fun k_ => some k_ ≠ (.slice Ao14 x3_1.length co14 : Value).ownBlock) (fun _ => False) rfl rfl ?aO ?aR (fun _ _ h => h) (fun _ h => h.elim) ?aF ?aB ?aS ?aL ?_; (case aR => exact zq138); (case aB => exact zq0); (case aF => exact (fun k_ hk => Kd.fresh' (Kd.R_lt zq8) k_ hk)); (case aO => exact (by (with_reducible repeat (first | apply Kd.R_alloc | apply Kd.R_drewN | apply Kd.R_drew)); exact Kd.R_mono HO178.out (fun _ hk => hk.2))); (case aS => exact (below_size zq0)); (case aL => have := LMc10.out; omega); intro v180 w13 ho hb hg hat; rw [← Ny179.out] at ho; replace HO_3 := zA (Kd.R_after (ok := (fun _ => True)) zq8 hg hat); replace HB := zA (hb); have HO181 := zA (ho); clear HO178; clear ho hb hg hat))
    go_roundg k1
    case measure => have := HK1.out; omega
    case rel => exact ⟨(x0_1 / 128), (y179), zq15, H', ⟨zq182⟩, ⟨(by (with_reducible repeat (first | apply Kd.R_alloc | apply Kd.R_drewN | apply Kd.R_drew)); exact Kd.R_mono HO181.out (fun _ hk => trivial))⟩, ⟨zq0⟩⟩
   go_upto_region 5 with fail
   obtain rfl := zi H
   go_wp2
   go_ret
   exact ⟨_, zq1, zq8, zq0⟩

/-! ### spec_PutOid: function 153 -/
def spec_PutOid.l0 : Nat → List Int → List Int → Int → Option (List Int)
 | 0, _, _, _ => none
 | k + 1, x0, x3, x4 => if x4 < (x0.length : Int) then (if 0 ≤ x4 then ((spec_l2Group.f k (rd x0 x4)).bind fun t187 => (if x3.length + t187.length < 140737488355328 then (spec_PutOid.l0 k x0 (x3 ++ t187) (wrap64 (x4 + 1))) else (none))) else (none)) else (some x3)
def spec_PutOid.f (k : Nat) (l0 : List Int) : Option (List Int) := (some (([] : List Int) : List Int)).bind fun y182 => ((spec_OidOk.f k l0).bind fun t185 => (if t185 = true then (spec_PutOid.l0 k l0 y182 0) else (some y182)))
theorem spec_PutOid.mono_l : ∀ k, (∀ y0 y1 y2, LeO (spec_PutOid.l0 k y0 y1 y2) (spec_PutOid.l0 (k + 1) y0 y1 y2))
 | 0 => fun _ _ _ r h => by simp [spec_PutOid.l0] at h
 | k + 1 => by
  have ih0 := spec_PutOid.mono_l k
  ·intro y0 y1 y2
   unfold spec_PutOid.l0
   have m0_ := @spec_OidOk.mono
   have m1_ := @spec_l2Group.mono
   exact zR
theorem spec_PutOid.mono : ∀ a0 k, LeO (spec_PutOid.f k a0) (spec_PutOid.f (k + 1) a0) := by
 intro a0 k
 have ih0 := spec_PutOid.mono_l k
 unfold spec_PutOid.f
 have m0_ := @spec_OidOk.mono
 have m1_ := @spec_l2Group.mono
 exact zR
theorem spec_PutOid.calls (k : Nat) (A0 : Option Addr) (c0 : Nat) (l0 : List Int) (r : List Int) (w : World) (hr0 : Kd.C (Kd.int .i64) w A0 l0.length l0) (hc0 : l0.length ≤ c0) (h : spec_PutOid.f k l0 = some r) :
  Calls Try.prog 153 #[.slice A0 l0.length c0] w fun e w' => ∃ v0_ : Value, e = .returned (v0_) ∧ Kd.R (Kd.int .u8) 5 w' w.heap.size (fun _ => True) v0_ r ∧ Below w.heap.size w w' := by
 have HR0 := zA hr0
 have HC0 := zA hc0
 clear hr0 hc0
 have HB := zA (Below.refl w.heap.size w)
 unfold spec_PutOid.f at h
 have H := zA h
 clear h
 go_enter Try.func153, Try.ntmps153
 go_upto_region 0 with fail
 go_upto_region 1 with fail
 replace H := zS (([] : List Int)) H; obtain ⟨y182, Ny182, H⟩ := H
 go_upto_region 2 with (first | ((with_reducible refine gate_dst (N := 5) rfl ?_); refine Kd.R_lit (Kd.int .u8) _ 5 ?hg (N := 5) ?hd (xs := ([] : List Int)) (inner := []) (ok := fun _ => True) (okp := fun _ => True) ?hr ?hp (fun _ hk => hk) trivial (Below.refl _ _) (Nat.le_refl _) zq219 ?_; (case hd => rfl); (case hg => rfl); (case hr => exact zgs); (case hp => exact (Reps.none _ _)); intro v183 w5 ho6 hb hg_ hnew_; clear hg_ hnew_; (first | rw [← Ny182.out] at ho6 | (simp only [Int.reduceToNat] at ho6; rw [← Ny182.out] at ho6)); have HO184 := zA (Kd.R_lower ho6 (below_size zq0)); replace HB := zA (below_step zq0 hb); clear hb ho6))
 (try simp only [zvs])
 replace H := zB H; obtain ⟨t185, A7, H⟩ := H
 try dsimp only at H
 replace H := zE H; rcases H with ⟨rfl, H⟩ | ⟨rfl, H⟩
 ·go_upto_region 4 with (first | ((with_reducible refine zg175 rfl ?_); refine zl175 (some 7) #[.slice A0 l0.length c0] ?_; (with_reducible refine (spec_OidOk.calls k _ _ l0 true _ ?side1 ?side2 A7.out).mono ?_); (case side1 => exact zq18); (case side2 => exact HC0.out); rintro e w' ⟨rfl, ⟨nd, rfl⟩⟩; refine ⟨_, rfl, ?_⟩))
  (try simp only [zvs])
  (try (rw [drewN_self w5]; generalize hq_ : World.drewN w5 _ = w5; replace HO184 := zA (Kd.R_at hq_ HO184.out); replace HB := zA (below_at hq_ HB.out); clear hq_))
  have H' := H; clear H
  go_wp2
  go_loopg [3, 4] k (fun kq v3 v4 w' => ∃ (x3_1 : List Int) (x4_1 : Int), v4 = .int .i64 x4_1 ∧ Aside0 (spec_PutOid.l0 kq l0 x3_1 x4_1 = some r) ∧ Aside0 (kq ≤ k) ∧ Aside0 (Kd.R (Kd.int .u8) 5 w' w.heap.size (fun _ => True) v3 x3_1) ∧ Aside0 (Below w.heap.size w w'))
  case atStart => exact ⟨(y182), (0), zq15, H', ⟨Nat.le_refl _⟩, ⟨(zrk HO184.out)⟩, ⟨zq0⟩⟩
  case round =>
   clear H'
   try clear c1
   try clear p2
   try clear c8
   obtain ⟨x3_1, x4_1, rfl, HA, HK1, HO_3, HB⟩ := hrel
   cases gk with
   | zero => exact absurd HA.out (by simp [spec_PutOid.l0])
   | succ k1 =>
    have H := HA
    clear HA
    simp only [spec_PutOid.l0] at H
    go_upto_region 5 with fail
    replace H := zPd H; rcases H with ⟨c11b0, H⟩ | ⟨c11b0, H⟩
    ·go_upto_region 7 with fail
     replace H := zNd H; obtain ⟨c13b0, H⟩ := H
     replace H := zB H; obtain ⟨t187, A14, H⟩ := H
     try dsimp only at H
     replace H := zN H; obtain ⟨c15, H⟩ := H
     have LMc15 := zA c15
     clear c15
     obtain ⟨y190, hy190⟩ : ∃ y_ : List Int, y_ = (x3_1 ++ t187) := ⟨_, rfl⟩
     rw [← hy190] at H
     have Ny190 := zA hy190
     clear hy190
     have p186 : 0 ≤ (x4_1 : Int) := of_decide_eq_true zq13
     have q186 : x4_1 < (l0.length : Int) := of_decide_eq_true zq13
     obtain ⟨ad186, e186, hx186_0⟩ := Kd.at_int HR0.out x4_1 p186 q186
     cases e186
     replace hx186_0 := zcl HB.out hx186_0
     replace p186 := eq_true p186
     replace q186 := eq_true q186
     go_upto_region 6 with (first | ((with_reducible refine zg185 rfl ?_); refine zl185 (some 21) #[.int .i64 (rd l0 x4_1)] ?_; (with_reducible refine (spec_l2Group.calls k1 (rd l0 x4_1) t187 _ A14.out).mono ?_); rintro e w17 ⟨v188, rfl, ho0, hb⟩; refine ⟨_, rfl, ?_⟩; have HO189 := zA (Kd.R_lower (Kd.R_new' ho0 (Kd.R_lt zq8)) (below_size zq0)); replace HO_3 := zA (Kd.R_elder' zq8 (Kd.R_base ho0) hb); replace HB := zA (below_step zq0 hb); clear hb ho0; obtain ⟨Ao19, co19, eo19⟩ := Kd.R_slice HO189.out; subst eo19) | ((with_reducible refine gate_builtin (b := .append) (xs := #[.tmp 16, .tmp 21]) rfl ?_); at_builtin; refine Kd.R_append_rows (Kd.int .u8) (w0 := w) w.heap.size rfl (.tmp 16) (.tmp 21) 22 5 (.int .u8 0) 1 rfl Try.underlying22 info5 rfl zq52 zq183 u3 x3_1 t187 _ _ _ (fun k_ => some k_ ≠ (.slice Ao19 t187.length co19 : Value).ownBlock) (fun _ => False) rfl rfl ?aO ?aR (fun _ _ h => h) (fun _ h => h.elim) ?aF ?aB ?aS ?aL ?_; (case aR => exact (zck (Kd.R_reads' HO189.out).2.2)); (case aB => exact zq0); (case aF => exact (fun k_ hk => Kd.fresh' (Kd.R_lt (zrk HO189.out)) k_ hk)); (case aO => exact zq266); (case aS => exact (below_size zq0)); (case aL => have := LMc15.out; omega); intro v191 w18 ho hb hg hat; rw [← Ny190.out] at ho; replace HO189 := zA (Kd.R_after (ok := (fun _ => True)) (zrk HO189.out) hg hat); replace HB := zA (hb); have HO192 := zA (ho); clear HO_3; clear ho hb hg hat))
     (try simp only [zvs])
     (try (rw [drewN_self w18]; generalize hq_ : World.drewN w18 _ = w18; replace HO189 := zA (Kd.R_at hq_ HO189.out); replace HO192 := zA (Kd.R_at hq_ HO192.out); replace HB := zA (below_at hq_ HB.out); clear hq_))
     have H' := H; clear H
     go_wp2
     go_roundg k1
     case measure => have := HK1.out; omega
     case rel => exact ⟨(y190), (wrap64 (x4_1 + 1)), zq15, H', ⟨zq182⟩, ⟨(by (with_reducible repeat (first | apply Kd.R_alloc | apply Kd.R_drewN | apply Kd.R_drew)); exact Kd.R_mono HO192.out (fun _ hk => trivial))⟩, ⟨zq0⟩⟩
    go_upto_region 8 with fail
    obtain rfl := zi H
    go_wp2
    go_ret
    exact ⟨_, zq1, zq8, zq0⟩
 go_upto_region 3 with (first | ((with_reducible refine zg175 rfl ?_); refine zl175 (some 7) #[.slice A0 l0.length c0] ?_; (with_reducible refine (spec_OidOk.calls k _ _ l0 false _ ?side1 ?side2 A7.out).mono ?_); (case side1 => exact zq18); (case side2 => exact HC0.out); rintro e w' ⟨rfl, ⟨nd, rfl⟩⟩; refine ⟨_, rfl, ?_⟩))
 (try simp only [zvs])
 (try (rw [drewN_self w5]; generalize hq_ : World.drewN w5 _ = w5; replace HO184 := zA (Kd.R_at hq_ HO184.out); replace HB := zA (below_at hq_ HB.out); clear hq_))
 obtain rfl := zi H
 go_wp2
 go_ret
 exact ⟨_, zq1, (zrk HO184.out), zq0⟩

end Go.Proofs.Ytkcgghgkmgbphaa.PFnMsgs
