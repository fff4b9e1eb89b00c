-- WRITTEN BY a turned copy of the kit's printer (wip/patch_print.py), for this claim
import Derived.Test.YtkcgghgkmgbphaaPFnFramesx0
import Derived.Test.YtkcgghgkmgbphaaPFnFramesx5
namespace Go.Proofs.Ytkcgghgkmgbphaa.PFnFrames
open Go.RowKit Go.Proofs.YtkcgghgkmgbphaaW.PrintWords Go.Proofs.YtkcgghgkmgbphaaW.PrintLast Go.Proofs.YtkcgghgkmgbphaaW.PrintMore
attribute [local go_sem] max2_int min2_int max_two min_two max_three min_three max_four min_four   -- for this text's walks alone
set_option linter.unusedVariables false
set_option linter.unusedSimpArgs false

/-! ### impl_tlv: function 106 -/
def impl_tlv.j0 : Nat → Int → List Int → Bool → Option (List Int × Bool)
 | 0, _, _, _ => none
 | k + 1, x0, x1, x14 => if x14 = true then (some (([] : List Int), false)) else ((some (([(x0) % 256] : List Int) : List Int)).bind fun y229 => (if (x1.length : Int) ≥ 128 then (if y229.length < 140737488355328 then ((some (y229 ++ [129] : List Int)).bind fun y232 => (if y232.length < 140737488355328 then ((some (y232 ++ [((x1.length : Int)) % 256] : List Int)).bind fun y235 => (if y235.length + x1.length < 140737488355328 then (some ((y235 ++ x1), true)) else (none))) else (none))) else (none)) else (if y229.length < 140737488355328 then ((some (y229 ++ [((x1.length : Int)) % 256] : List Int)).bind fun y241 => (if y241.length + x1.length < 140737488355328 then (some ((y241 ++ x1), true)) else (none))) else (none))))
def impl_tlv.f (k : Nat) (a0 : Int) (l1 : List Int) : Option (List Int × Bool) := (impl_in.f a0 0 255).bind fun t228 => (if t228 = true then (impl_tlv.j0 k a0 l1 (decide ((l1.length : Int) > 250))) else (impl_tlv.j0 k a0 l1 true))
theorem impl_tlv.mono_l : ∀ k, (∀ y0 y1 y2, LeO (impl_tlv.j0 k y0 y1 y2) (impl_tlv.j0 (k + 1) y0 y1 y2))
 | 0 => fun _ _ _ r h => by simp [impl_tlv.j0] at h
 | k + 1 => by
  have ih0 := impl_tlv.mono_l k
  ·intro y0 y1 y2
   unfold impl_tlv.j0
   exact zR
theorem impl_tlv.mono : ∀ a0 a1 k, LeO (impl_tlv.f k a0 a1) (impl_tlv.f (k + 1) a0 a1) := by
 intro a0 a1 k
 have ih0 := impl_tlv.mono_l k
 unfold impl_tlv.f
 exact zR
set_option maxHeartbeats 8000000 in
set_option maxRecDepth 100000 in
theorem impl_tlv.calls (k : Nat) (a0 : Int) (A1 : Option Addr) (c1 : Nat) (l1 : List Int) (r1 : List Int) (r2 : Bool) (w : World) (hr1 : Kd.C (Kd.int .u8) w A1 l1.length l1) (hc1 : l1.length ≤ c1) (h : impl_tlv.f k a0 l1 = some (r1, r2)) :
  Calls Try.prog 106 #[.int .i64 a0, .slice A1 l1.length c1] w fun e w' => ∃ v0_ : Value, e = .returned (.tuple #[v0_, .bool r2]) ∧ Kd.R (Kd.int .u8) 5 w' w.heap.size (fun _ => True) v0_ r1 ∧ Below w.heap.size w w' := by
 have HR1 := zA hr1
 have HC1 := zA hc1
 clear hr1 hc1
 have HB := zA (Below.refl w.heap.size w)
 unfold impl_tlv.f at h
 have H := h
 clear h
 have HC3 := zA H
 clear H
 go_enter Try.func106, Try.ntmps106
 go_upto_region 0 with (fail)
 have H := HC3.out
 clear HC3
 have HC4 := zA H
 clear H
 go_upto_region 1 with (fail)
 have H := HC4.out
 clear HC4
 have HC5 := zA H
 clear H
 go_upto_region 1 with (fail)
 go_cut [14] (fun v14 wc => ∃ (kq : Nat) (x14_4 : Bool), v14 = .bool x14_4 ∧ Aside0 (impl_tlv.j0 kq a0 l1 x14_4 = some (r1, r2)) ∧ Aside0 (kq ≤ k) ∧ Aside0 (Below w.heap.size w wc))
 case first =>
  have H := HC5.out
  clear HC5
  obtain ⟨t228, A6, H⟩ := zB H
  try dsimp only at H
  by_cases c7 : t228 = true
  ·subst c7
   rw [if_pos rfl] at H
   have H' := zA H
   clear H
   go_wp2_with (first | ((with_reducible refine gate_callee (f := 122) rfl ?_); refine goesL_ (some 8) rfl rfl Try.func122 (by kernel_rfl) rfl #[.int .i64 a0, .int .i64 0, .int .i64 255] rfl zq1 ?_; (with_reducible refine (impl_in.calls a0 0 255 true _ A6.out).mono ?_); rintro e w' ⟨rfl, ⟨nd, rfl⟩⟩; refine ⟨_, rfl, ?_⟩))
   go_meet
   case rel => exact ⟨_, (decide ((l1.length : Int) > 250)), zq25, H', ⟨zq97⟩, ⟨zq0⟩⟩
  ·replace c7 := Bool.eq_false_iff.mpr c7
   subst c7
   rw [if_neg zF] at H
   have H' := zA H
   clear H
   go_wp2_with (first | ((with_reducible refine gate_callee (f := 122) rfl ?_); refine goesL_ (some 8) rfl rfl Try.func122 (by kernel_rfl) rfl #[.int .i64 a0, .int .i64 0, .int .i64 255] rfl zq1 ?_; (with_reducible refine (impl_in.calls a0 0 255 false _ A6.out).mono ?_); rintro e w' ⟨rfl, ⟨nd, rfl⟩⟩; refine ⟨_, rfl, ?_⟩))
   go_meet
   case rel => exact ⟨_, (true), zq25, H', ⟨zq97⟩, ⟨zq0⟩⟩
 case rest =>
  clear HC5
  try clear c1
  try clear p2
  try clear c7
  obtain ⟨kq, x14_4, rfl, HA, HJ4, HB⟩ := hcut
  cases kq with
  | zero => exact absurd HA.out (by simp [impl_tlv.j0])
  | succ kj4 =>
   have H := HA.out
   clear HA
   simp only [impl_tlv.j0] at H
   by_cases c8 : x14_4 = true
   ·subst c8
    rw [if_pos rfl] at H
    have HC9 := zA H
    clear H
    go_upto_region 2 with (fail)
    have H := HC9.out
    clear HC9
    simp only [Option.some.injEq, Prod.mk.injEq] at H
    obtain ⟨rfl, rfl⟩ := H
    go_wp2
    go_ret2
    exact ⟨_, zq5, zq20, zq0⟩
   ·replace c8 := Bool.eq_false_iff.mpr c8
    subst c8
    rw [if_neg zF] at H
    have HC10 := zA H
    clear H
    go_upto_region 3 with (fail)
    have H := HC10.out
    clear HC10
    obtain ⟨y229, Ny229, H⟩ := zS (([(a0) % 256] : List Int)) H
    have HC11 := zA H
    clear H
    go_upto_region 4 with (first | ((with_reducible refine gate_dst (N := 17) rfl ?_); (try (refine gate_guard zq110 ?_; dsimp only)); refine Kd.R_lit (Kd.int .u8) _ 5 ?hg (N := 17) ?hd (xs := ([(a0) % 256] : List Int)) (inner := [.int .u8 ((a0) % 256)]) (ok := fun _ => True) (okp := fun _ => True) ?hr ?hp (fun _ hk => hk) trivial (Below.refl _ _) (Nat.le_refl _) zq125 ?_; (case hd => rfl); (case hg => rfl); (case hr => first | (go_simp; done) | (go_simp; rfl)); (case hp => exact (Reps.one (show Kd.M (Kd.int .u8) _ _ _ ((a0) % 256) [.int .u8 ((a0) % 256)] from rfl) (Reps.none _ _))); intro v230 w12 ho13 hb hg_ hnew_; clear hg_ hnew_; (first | rw [← Ny229.out] at ho13 | (simp only [Int.reduceToNat] at ho13; rw [← Ny229.out] at ho13)); have HO231 := zA (Kd.R_lower ho13 (below_size zq0)); replace HB := zA (below_step zq0 hb); clear hb ho13))
    (try simp only [Act.put, List.setIfInBounds_toArray, List.set_cons_zero, List.set_cons_succ])
    have H := HC11.out
    clear HC11
    by_cases c14 : (l1.length : Int) ≥ 128
    ·rw [if_pos c14] at H
     have c14b0 : decide (128 ≤ (l1.length : Int)) = true := decide_eq_true c14
     have c14b1 : decide (128 ≤ l1.length) = true := decide_eq_true zq177
     clear c14
     have HC15 := zA H
     clear H
     go_upto_region 5 with (fail)
     have H := HC15.out
     clear HC15
     obtain ⟨c16, H⟩ := zN H
     have LMc16 := zA c16
     clear c16
     obtain ⟨y232, Ny232, H⟩ := zS (y229 ++ [129]) H
     have HC17 := zA H
     clear H
     go_upto_region 6 with (first | ((with_reducible refine gate_builtin (b := .append) (xs := #[.tmp 21, .tmp 22]) rfl ?_); (try (refine gate_guard zq110 ?_; dsimp only)); at_builtin; refine Kd.R_append (Kd.int .u8) (w0 := w) w.heap.size rfl (.tmp 21) (.tmp 22) 22 5 (.int .u8 0) 1 rfl Try.underlying22 info5 rfl zq40 zq177 v230 y229 129 [.int .u8 129] (fun _ => True) (fun _ => False) rfl rfl ?aP (fun _ hk => hk.elim) ?aF ?aO ?aB ?aS ?aL ?_; (case aP => exact rfl); (case aB => exact zq0); (case aF => exact (fun _ _ => trivial)); (case aO => exact zq194); (case aS => exact (below_size zq0)); (case aL => have := LMc16.out; omega); intro v233 w18 ho hb hg hat; rw [← Ny232.out] at ho; replace HB := zA (hb); have HO234 := zA (ho); clear HO231; clear ho hb hg hat))
     (try simp only [Act.put, List.setIfInBounds_toArray, List.set_cons_zero, List.set_cons_succ])
     have H := HC17.out
     clear HC17
     obtain ⟨c19, H⟩ := zN H
     have LMc19 := zA c19
     clear c19
     obtain ⟨y235, Ny235, H⟩ := zS (y232 ++ [((l1.length : Int)) % 256]) H
     obtain ⟨c20, H⟩ := zN H
     have LMc20 := zA c20
     clear c20
     obtain ⟨y238, hy238⟩ : ∃ y_ : List Int, y_ = (y235 ++ l1) := ⟨_, rfl⟩
     rw [← hy238] at H
     have Ny238 := zA hy238
     clear hy238
     simp only [Option.some.injEq, Prod.mk.injEq] at H
     obtain ⟨rfl, rfl⟩ := H
     go_wp2_with (first | ((with_reducible refine gate_builtin (b := .append) (xs := #[.tmp 24, .tmp 28]) rfl ?_); (try (refine gate_guard zq110 ?_; dsimp only)); at_builtin; refine Kd.R_append (Kd.int .u8) (w0 := w) w.heap.size rfl (.tmp 24) (.tmp 28) 22 5 (.int .u8 0) 1 rfl Try.underlying22 info5 rfl zq40 zq177 v233 y232 (((l1.length : Int)) % 256) [.int .u8 (((l1.length : Int)) % 256)] (fun _ => True) (fun _ => False) rfl rfl ?aP (fun _ hk => hk.elim) ?aF ?aO ?aB ?aS ?aL ?_; (case aP => exact rfl); (case aB => exact zq0); (case aF => exact (fun _ _ => trivial)); (case aO => exact (by (with_reducible repeat (first | apply Kd.R_alloc | apply Kd.R_drewN | apply Kd.R_drew)); exact HO234.out)); (case aS => exact (below_size zq0)); (case aL => have := LMc19.out; omega); intro v236 w21 ho hb hg hat; rw [← Ny235.out] at ho; replace HB := zA (hb); have HO237 := zA (ho); clear HO234; clear ho hb hg hat) | ((with_reducible refine gate_builtin (b := .append) (xs := #[.tmp 29, .tmp 30]) rfl ?_); (try (refine gate_guard zq110 ?_; dsimp only)); at_builtin; refine Kd.R_append_rows (Kd.int .u8) (w0 := w) w.heap.size rfl (.tmp 29) (.tmp 30) 22 5 (.int .u8 0) 1 rfl Try.underlying22 info5 rfl zq40 zq177 v236 y235 l1 _ _ _ (fun _ => True) (fun _ => False) rfl rfl ?aO ?aR (fun _ _ h => h) (fun _ h => h.elim) ?aF ?aB ?aS ?aL ?_; (case aR => repeat (first | exact (Kd.C_below HR1.out HB.out) | (with_reducible refine Kd.C_alloc ?_ _) | (with_reducible refine Kd.C_drewN ?_ _) | (with_reducible refine Kd.C_drew ?_))); (case aB => exact zq0); (case aF => exact (fun _ _ => trivial)); (case aO => exact (by (with_reducible repeat (first | apply Kd.R_alloc | apply Kd.R_drewN | apply Kd.R_drew)); exact HO237.out)); (case aS => exact (below_size zq0)); (case aL => have := LMc20.out; omega); intro v239 w22 ho hb hg hat; rw [← Ny238.out] at ho; replace HB := zA (hb); have HO240 := zA (ho); clear HO237; clear ho hb hg hat))
     go_ret2
     exact ⟨_, zq5, (by (with_reducible repeat (first | apply Kd.R_alloc | apply Kd.R_drewN | apply Kd.R_drew)); exact HO240.out), zq0⟩
    ·rw [if_neg c14] at H
     have c14b0 : decide (128 ≤ (l1.length : Int)) = false := decide_eq_false c14
     have c14b1 : decide (128 ≤ l1.length) = false := decide_eq_false zq177
     clear c14
     have HC23 := zA H
     clear H
     go_upto_region 6 with (fail)
     have H := HC23.out
     clear HC23
     obtain ⟨c24, H⟩ := zN H
     have LMc24 := zA c24
     clear c24
     obtain ⟨y241, Ny241, H⟩ := zS (y229 ++ [((l1.length : Int)) % 256]) H
     obtain ⟨c25, H⟩ := zN H
     have LMc25 := zA c25
     clear c25
     obtain ⟨y244, hy244⟩ : ∃ y_ : List Int, y_ = (y241 ++ l1) := ⟨_, rfl⟩
     rw [← hy244] at H
     have Ny244 := zA hy244
     clear hy244
     simp only [Option.some.injEq, Prod.mk.injEq] at H
     obtain ⟨rfl, rfl⟩ := H
     go_wp2_with (first | ((with_reducible refine gate_builtin (b := .append) (xs := #[.tmp 24, .tmp 28]) rfl ?_); (try (refine gate_guard zq110 ?_; dsimp only)); at_builtin; refine Kd.R_append (Kd.int .u8) (w0 := w) w.heap.size rfl (.tmp 24) (.tmp 28) 22 5 (.int .u8 0) 1 rfl Try.underlying22 info5 rfl zq40 zq177 v230 y229 (((l1.length : Int)) % 256) [.int .u8 (((l1.length : Int)) % 256)] (fun _ => True) (fun _ => False) rfl rfl ?aP (fun _ hk => hk.elim) ?aF ?aO ?aB ?aS ?aL ?_; (case aP => exact rfl); (case aB => exact zq0); (case aF => exact (fun _ _ => trivial)); (case aO => exact zq194); (case aS => exact (below_size zq0)); (case aL => have := LMc24.out; omega); intro v242 w26 ho hb hg hat; rw [← Ny241.out] at ho; replace HB := zA (hb); have HO243 := zA (ho); clear HO231; clear ho hb hg hat) | ((with_reducible refine gate_builtin (b := .append) (xs := #[.tmp 29, .tmp 30]) rfl ?_); (try (refine gate_guard zq110 ?_; dsimp only)); at_builtin; refine Kd.R_append_rows (Kd.int .u8) (w0 := w) w.heap.size rfl (.tmp 29) (.tmp 30) 22 5 (.int .u8 0) 1 rfl Try.underlying22 info5 rfl zq40 zq177 v242 y241 l1 _ _ _ (fun _ => True) (fun _ => False) rfl rfl ?aO ?aR (fun _ _ h => h) (fun _ h => h.elim) ?aF ?aB ?aS ?aL ?_; (case aR => repeat (first | exact (Kd.C_below HR1.out HB.out) | (with_reducible refine Kd.C_alloc ?_ _) | (with_reducible refine Kd.C_drewN ?_ _) | (with_reducible refine Kd.C_drew ?_))); (case aB => exact zq0); (case aF => exact (fun _ _ => trivial)); (case aO => exact (by (with_reducible repeat (first | apply Kd.R_alloc | apply Kd.R_drewN | apply Kd.R_drew)); exact HO243.out)); (case aS => exact (below_size zq0)); (case aL => have := LMc25.out; omega); intro v245 w27 ho hb hg hat; rw [← Ny244.out] at ho; replace HB := zA (hb); have HO246 := zA (ho); clear HO243; clear ho hb hg hat))
     go_ret2
     exact ⟨_, zq5, (by (with_reducible repeat (first | apply Kd.R_alloc | apply Kd.R_drewN | apply Kd.R_drew)); exact HO246.out), zq0⟩

/-! ### impl_copyBytes: function 155 -/
def impl_copyBytes.f (l0 : List Int) : Option (List Int) := if ([] : List Int).length + l0.length < 140737488355328 then (some (([] : List Int) ++ l0)) else (none)
set_option maxHeartbeats 8000000 in
set_option maxRecDepth 100000 in
theorem impl_copyBytes.calls (A0 : Option Addr) (c0 : Nat) (l0 : List Int) (r : List Int) (w : World) (hr0 : Kd.C (Kd.int .u8) w A0 l0.length l0) (hc0 : l0.length ≤ c0) (h : impl_copyBytes.f l0 = some r) :
  Calls Try.prog 155 #[.slice A0 l0.length c0] w fun e w' => ∃ v0_ : Value, e = .returned (v0_) ∧ Kd.R (Kd.int .u8) 5 w' w.heap.size (fun _ => True) v0_ r ∧ Below w.heap.size w w' := by
 have HR0 := zA hr0
 have HC0 := zA hc0
 clear hr0 hc0
 have HB := zA (Below.refl w.heap.size w)
 unfold impl_copyBytes.f at h
 have H := h
 clear h
 have HC2 := zA H
 clear H
 go_enter Try.func155, Try.ntmps155
 go_upto_region 0 with (fail)
 have H := HC2.out
 clear HC2
 have HC3 := zA H
 clear H
 go_upto_region 1 with (fail)
 have H := HC3.out
 clear HC3
 obtain ⟨c4, H⟩ := zN H
 have LMc4 := zA c4
 clear c4
 obtain ⟨y247, hy247⟩ : ∃ y_ : List Int, y_ = (([] : List Int) ++ l0) := ⟨_, rfl⟩
 rw [← hy247] at H
 have Ny247 := zA hy247
 clear hy247
 obtain rfl := Option.some.inj H
 go_wp2_with (first | ((with_reducible refine gate_builtin (b := .append) (xs := #[.const (.slice none 0 0), .tmp 3]) rfl ?_); at_builtin; refine Kd.R_append_rows (Kd.int .u8) (w0 := w) w.heap.size rfl (.const (.slice none 0 0)) (.tmp 3) 22 5 (.int .u8 0) 1 rfl Try.underlying22 info5 rfl zq40 zq177 (.slice none 0 0) ([] : List Int) l0 _ _ _ (fun _ => True) (fun _ => False) rfl rfl ?aO ?aR (fun _ _ h => h) (fun _ h => h.elim) ?aF ?aB ?aS ?aL ?_; (case aR => repeat (first | exact (Kd.C_below HR0.out HB.out) | (with_reducible refine Kd.C_alloc ?_ _) | (with_reducible refine Kd.C_drewN ?_ _) | (with_reducible refine Kd.C_drew ?_))); (case aB => exact zq0); (case aF => exact (fun _ _ => trivial)); (case aO => exact ((Kd.R_nil _ _ _ _ (fun _ => True)))); (case aS => exact (below_size zq0)); (case aL => have := LMc4.out; omega); intro v248 w5 ho hb hg hat; rw [← Ny247.out] at ho; replace HB := zA (hb); have HO249 := zA (ho); clear ho hb hg hat))
 go_ret
 exact ⟨_, zq5, (by (with_reducible repeat (first | apply Kd.R_alloc | apply Kd.R_drewN | apply Kd.R_drew)); exact HO249.out), zq0⟩

/-! ### impl_PutTlv: function 107 -/
def impl_PutTlv.f (k : Nat) (l0 : List Int) (a1 : Int) (l2 : List Int) : Option (List Int) := (impl_tlv.f k a1 l2).bind fun bt250 => ((impl_copyBytes.f l0).bind fun t254 => (if t254.length + bt250.1.length < 140737488355328 then (some (t254 ++ bt250.1)) else (none)))
theorem impl_PutTlv.mono : ∀ a0 a1 a2 k, LeO (impl_PutTlv.f k a0 a1 a2) (impl_PutTlv.f (k + 1) a0 a1 a2) := by
 intro a0 a1 a2 k
 unfold impl_PutTlv.f
 have m0_ := @impl_tlv.mono
 exact zR
set_option maxHeartbeats 8000000 in
set_option maxRecDepth 100000 in
theorem impl_PutTlv.calls (k : Nat) (A0 : Option Addr) (c0 : Nat) (l0 : List Int) (a1 : Int) (A2 : Option Addr) (c2 : Nat) (l2 : List Int) (r : List Int) (w : World) (hr0 : Kd.C (Kd.int .u8) w A0 l0.length l0) (hc0 : l0.length ≤ c0) (hr2 : Kd.C (Kd.int .u8) w A2 l2.length l2) (hc2 : l2.length ≤ c2) (h : impl_PutTlv.f k l0 a1 l2 = some r) :
  Calls Try.prog 107 #[.slice A0 l0.length c0, .int .i64 a1, .slice A2 l2.length c2] w fun e w' => ∃ v0_ : Value, e = .returned (v0_) ∧ Kd.R (Kd.int .u8) 5 w' w.heap.size (fun _ => True) v0_ r ∧ Below w.heap.size w w' := by
 have HR0 := zA hr0
 have HC0 := zA hc0
 clear hr0 hc0
 have HR2 := zA hr2
 have HC2 := zA hc2
 clear hr2 hc2
 have HB := zA (Below.refl w.heap.size w)
 unfold impl_PutTlv.f at h
 have H := h
 clear h
 have HC4 := zA H
 clear H
 go_enter Try.func107, Try.ntmps107
 go_upto_region 0 with (fail)
 have H := HC4.out
 clear HC4
 have HC5 := zA H
 clear H
 go_upto_region 1 with (fail)
 have H := HC5.out
 clear HC5
 obtain ⟨⟨t250, t251⟩, A6, H⟩ := zB H
 try dsimp only at H
 have HC7 := zA H
 clear H
 go_upto_region 2 with (first | ((with_reducible refine gate_callee (f := 106) rfl ?_); refine goesL_ (some 12) rfl rfl Try.func106 (by kernel_rfl) rfl #[.int .i64 a1, .slice A2 l2.length c2] rfl zq1 ?_; (with_reducible refine (impl_tlv.calls k a1 _ _ l2 t250 t251 _ ?side1 ?side2 A6.out).mono ?_); (case side1 => repeat (first | exact (Kd.C_below HR2.out HB.out) | (with_reducible refine Kd.C_alloc ?_ _) | (with_reducible refine Kd.C_drewN ?_ _) | (with_reducible refine Kd.C_drew ?_))); (case side2 => exact HC2.out); rintro e w8 ⟨v252, rfl, ho0, hb⟩; refine ⟨_, rfl, ?_⟩; have HO253 := zA (Kd.R_lower ho0 (below_size zq0)); replace HB := zA (below_step zq0 hb); clear hb ho0))
 (try simp only [Act.put, List.setIfInBounds_toArray, List.set_cons_zero, List.set_cons_succ])
 have H := HC7.out
 clear HC7
 obtain ⟨t254, A9, H⟩ := zB H
 try dsimp only at H
 obtain ⟨c10, H⟩ := zN H
 have LMc10 := zA c10
 clear c10
 obtain ⟨y257, hy257⟩ : ∃ y_ : List Int, y_ = (t254 ++ t250) := ⟨_, rfl⟩
 rw [← hy257] at H
 have Ny257 := zA hy257
 clear hy257
 obtain rfl := Option.some.inj H
 go_wp2_with (first | ((with_reducible refine gate_callee (f := 155) rfl ?_); refine goesL_ (some 16) rfl rfl Try.func155 (by kernel_rfl) rfl #[.slice A0 l0.length c0] rfl zq1 ?_; (with_reducible refine (impl_copyBytes.calls _ _ l0 t254 _ ?side1 ?side2 A9.out).mono ?_); (case side1 => repeat (first | exact (Kd.C_below HR0.out HB.out) | (with_reducible refine Kd.C_alloc ?_ _) | (with_reducible refine Kd.C_drewN ?_ _) | (with_reducible refine Kd.C_drew ?_))); (case side2 => exact HC0.out); rintro e w11 ⟨v255, rfl, ho0, hb⟩; refine ⟨_, rfl, ?_⟩; have HO256 := zA (Kd.R_lower (Kd.R_new' ho0 (Kd.R_lt zq161)) (below_size zq0)); replace HO253 := zA (Kd.R_elder' zq161 (Kd.R_base ho0) hb); replace HB := zA (below_step zq0 hb); clear hb ho0; obtain ⟨Ao13, co13, eo13⟩ := Kd.R_slice HO253.out; subst eo13) | ((with_reducible refine gate_builtin (b := .append) (xs := #[.tmp 16, .tmp 17]) rfl ?_); at_builtin; refine Kd.R_append_rows (Kd.int .u8) (w0 := w) w.heap.size rfl (.tmp 16) (.tmp 17) 22 5 (.int .u8 0) 1 rfl Try.underlying22 info5 rfl zq40 zq177 v255 t254 t250 _ _ _ (fun k_ => some k_ ≠ (.slice Ao13 t250.length co13 : Value).ownBlock) (fun _ => False) rfl rfl ?aO ?aR (fun _ _ h => h) (fun _ h => h.elim) ?aF ?aB ?aS ?aL ?_; (case aR => repeat (first | exact (Kd.R_reads' HO253.out).2.2 | (with_reducible refine Kd.C_alloc ?_ _) | (with_reducible refine Kd.C_drewN ?_ _) | (with_reducible refine Kd.C_drew ?_))); (case aB => exact zq0); (case aF => exact (fun k_ hk => Kd.fresh' (Kd.R_lt zq161) k_ hk)); (case aO => exact (by (with_reducible repeat (first | apply Kd.R_alloc | apply Kd.R_drewN | apply Kd.R_drew)); exact Kd.R_mono HO256.out (fun _ hk => hk.2))); (case aS => exact (below_size zq0)); (case aL => have := LMc10.out; omega); intro v258 w12 ho hb hg hat; rw [← Ny257.out] at ho; replace HO253 := zA (Kd.R_after (ok := (fun _ => True)) zq161 hg hat); replace HB := zA (hb); have HO259 := zA (ho); clear HO256; clear ho hb hg hat))
 go_ret
 exact ⟨_, zq5, (by (with_reducible repeat (first | apply Kd.R_alloc | apply Kd.R_drewN | apply Kd.R_drew)); exact Kd.R_mono HO259.out (fun _ hk => trivial)), zq0⟩

/-! ### impl_PutInt: function 156 -/
mutual
def impl_PutInt.j1 : Nat → Int → Int → Option (List Int)
 | 0, _, _ => none
 | k + 1, x0, x3 => impl_PutInt.l1 k x0 ([] : List Int) (wrap64 (x3 - 1))
def impl_PutInt.l1 : Nat → Int → List Int → Int → Option (List Int)
 | 0, _, _, _ => none
 | k + 1, x0, x4, x5 => if x5 ≥ 0 then (if 0 ≤ (wrap64 (8 * x5)) then (if x4.length < 140737488355328 then (impl_PutInt.l1 k x0 (x4 ++ [(shr .i64 x0 (wrap64 (8 * x5))) % 256]) (wrap64 (x5 - 1))) else (none)) else (none)) else (some x4)
def impl_PutInt.l0 : Nat → Int → Int → Option (List Int)
 | 0, _, _ => none
 | k + 1, x0, x3 => if x3 < 4 then (if 0 ≤ (wrap64 ((wrap64 (8 * x3)) - 1)) then ((impl_in.f x0 (shl .i64 (-1) (wrap64 ((wrap64 (8 * x3)) - 1))) (wrap64 ((shl .i64 1 (wrap64 ((wrap64 (8 * x3)) - 1))) - 1))).bind fun t260 => (if t260 = true then (impl_PutInt.j1 k x0 x3) else (impl_PutInt.l0 k x0 (wrap64 (x3 + 1))))) else (none)) else (impl_PutInt.j1 k x0 x3)
end
def impl_PutInt.f (k : Nat) (a0 : Int) : Option (List Int) := impl_PutInt.l0 k (mx (-2147483648) (mn a0 2147483647)) 1
theorem impl_PutInt.mono_l : ∀ k, (∀ y0 y1, LeO (impl_PutInt.j1 k y0 y1) (impl_PutInt.j1 (k + 1) y0 y1)) ∧ (∀ y0 y1 y2, LeO (impl_PutInt.l1 k y0 y1 y2) (impl_PutInt.l1 (k + 1) y0 y1 y2)) ∧ (∀ y0 y1, LeO (impl_PutInt.l0 k y0 y1) (impl_PutInt.l0 (k + 1) y0 y1))
 | 0 => ⟨fun _ _ r h => by simp [impl_PutInt.j1] at h, fun _ _ _ r h => by simp [impl_PutInt.l1] at h, fun _ _ r h => by simp [impl_PutInt.l0] at h⟩
 | k + 1 => by
  obtain ⟨ih0, ih1, ih2⟩ := impl_PutInt.mono_l k
  refine ⟨?_, ?_, ?_⟩
  ·intro y0 y1
   unfold impl_PutInt.j1
   exact zR
  ·intro y0 y1 y2
   unfold impl_PutInt.l1
   exact zR
  ·intro y0 y1
   unfold impl_PutInt.l0
   exact zR
theorem impl_PutInt.mono : ∀ a0 k, LeO (impl_PutInt.f k a0) (impl_PutInt.f (k + 1) a0) := by
 intro a0 k
 obtain ⟨ih0, ih1, ih2⟩ := impl_PutInt.mono_l k
 unfold impl_PutInt.f
 exact zR
set_option maxHeartbeats 8000000 in
set_option maxRecDepth 100000 in
theorem impl_PutInt.calls (k : Nat) (a0 : Int) (r : List Int) (w : World) (h : impl_PutInt.f k a0 = some r) :
  Calls Try.prog 156 #[.int .i64 a0] w fun e w' => ∃ v0_ : Value, e = .returned (v0_) ∧ Kd.R (Kd.int .u8) 5 w' w.heap.size (fun _ => True) v0_ r ∧ Below w.heap.size w w' := by
 have HB := zA (Below.refl w.heap.size w)
 unfold impl_PutInt.f at h
 have H := h
 clear h
 have HC2 := zA H
 clear H
 go_enter Try.func156, Try.ntmps156
 go_upto_region 0 with (fail)
 repeat (go_quiet (fail); go_upto_region 0 with (fail))
 have H := HC2.out
 clear HC2
 have HC3 := zA H
 clear H
 go_upto_region 1 with (fail)
 repeat (go_quiet (fail); go_upto_region 1 with (fail))
 have H := HC3.out
 clear HC3
 obtain ⟨ji4, hji4⟩ : ∃ j_ : Int, (mn a0 2147483647) = j_ := ⟨_, rfl⟩
 replace H : (impl_PutInt.l0 k (mx (-2147483648) (ji4)) 1) = some r := by first | (rw [hji4] at H; exact H) | (simp only [hji4] at H ⊢; exact H)
 (try (have hji4h : ji4 ≤ 2147483647 := by (rw [← hji4]; unfold mn; (repeat' split) <;> omega)))
 (try (have hji4g : ji4 ≤ 64 := by omega))
 have hji4_ : (if 2147483647 < a0 then 2147483647 else a0) = ji4 := hji4
 obtain ⟨ji5, hji5⟩ : ∃ j_ : Int, (mx (-2147483648) (ji4)) = j_ := ⟨_, rfl⟩
 replace H : (impl_PutInt.l0 k ji5 1) = some r := by first | (rw [hji5] at H; exact H) | (simp only [hji5] at H ⊢; exact H)
 have hji5_ : (if (-2147483648) < (ji4) then (ji4) else (-2147483648)) = ji5 := hji5
 have HC6 := zA H
 clear H
 go_upto_region 2 with (fail)
 repeat (go_quiet (fail); go_upto_region 2 with (fail))
 have H := HC6.out
 clear HC6
 have HC7 := zA H
 clear H
 go_upto_block 0 with (fail)
 repeat (go_quiet (fail); go_upto_block 0 with (fail))
 go_cut [3] (fun v3 wc => ∃ (kq : Nat) (x3_6 : Int), v3 = .int .i64 x3_6 ∧ Aside0 (impl_PutInt.j1 kq ji5 x3_6 = some r) ∧ Aside0 (kq ≤ k) ∧ Aside0 (Below w.heap.size w wc))
 case first =>
  have H := HC7.out
  clear HC7
  have H' := zA H
  clear H
  go_wp2
  repeat (go_quiet (fail); try go_wp2)
  go_loopg [3] k (fun kq v3 w' => ∃ (x3_1 : Int), v3 = .int .i64 x3_1 ∧ Aside0 (impl_PutInt.l0 kq ji5 x3_1 = some r) ∧ Aside0 (kq ≤ k) ∧ Aside0 (Below w.heap.size w w'))
  case atStart => exact ⟨(1), zq25, H', ⟨Nat.le_refl _⟩, ⟨zq0⟩⟩
  case round =>
   clear H'
   try clear c1
   try clear p2
   obtain ⟨x3_1, rfl, HA, HK1, HB⟩ := hrel
   cases gk with
   | zero => exact absurd HA.out (by simp [impl_PutInt.l0])
   | succ k1 =>
    have H := HA.out
    clear HA
    simp only [impl_PutInt.l0] at H
    have HC8 := zA H
    clear H
    go_upto_region 3 with (fail)
    repeat (go_quiet (fail); go_upto_region 3 with (fail))
    have H := HC8.out
    clear HC8
    by_cases c9 : x3_1 < 4
    ·rw [if_pos c9] at H
     have c9b0 : decide (x3_1 < 4) = true := decide_eq_true c9
     clear c9
     (first | rw [c9b0] | (simp only [i64_w, i32_w]; rw [c9b0]) | skip)
     obtain ⟨ji10, hji10⟩ : ∃ j_ : Int, (wrap64 ((wrap64 (8 * x3_1)) - 1)) = j_ := ⟨_, rfl⟩
     replace H : (if 0 ≤ (ji10) then ((impl_in.f ji5 (shl .i64 (-1) (ji10)) (wrap64 ((shl .i64 1 (ji10)) - 1))).bind fun t260 => (if t260 = true then (impl_PutInt.j1 k1 ji5 x3_1) else (impl_PutInt.l0 k1 ji5 (wrap64 (x3_1 + 1))))) else (none)) = some r := by first | (rw [hji10] at H; exact H) | (simp only [hji10] at H ⊢; exact H)
     have hji10w : (IntKind.i64.wrap ((wrap64 (8 * x3_1)) - 1)) = ji10 := (i64_w _).trans hji10
     have hji10W : (IntKind.i64.wrap ((IntKind.i64.wrap (8 * x3_1)) - 1)) = ji10 := by simp only [i64_w]; exact hji10
     obtain ⟨c11, H⟩ := zN H
     have c11b0 := eq_true c11
     have c11b1 : decide (0 ≤ (ji10)) = true := decide_eq_true c11
     clear c11
     obtain ⟨ji12, hji12⟩ : ∃ j_ : Int, (shl .i64 (-1) (ji10)) = j_ := ⟨_, rfl⟩
     replace H : ((impl_in.f ji5 (ji12) (wrap64 ((shl .i64 1 (ji10)) - 1))).bind fun t260 => (if t260 = true then (impl_PutInt.j1 k1 ji5 x3_1) else (impl_PutInt.l0 k1 ji5 (wrap64 (x3_1 + 1))))) = some r := by first | (rw [hji12] at H; exact H) | (simp only [hji12] at H ⊢; exact H)
     have hji12_ : (IntKind.i64.wrap ((-1) * 2 ^ min (ji10).toNat 64)) = ji12 := hji12
     have hji12z : (ji10) ≤ 64 → (IntKind.i64.wrap ((-1) * 2 ^ (ji10).toNat)) = ji12 := shl_small hji12
     have hji12u : (IntKind.i64.wrap (-2 ^ min (ji10).toNat 64)) = ji12 := by have h_ := hji12_; rw [Int.neg_one_mul] at h_; exact h_
     have hji12v : (ji10) ≤ 64 → (IntKind.i64.wrap (-2 ^ (ji10).toNat)) = ji12 := fun hle_ => by have h_ := hji12z hle_; rw [Int.neg_one_mul] at h_; exact h_
     have hji12y : (wrap64 ((-1) * 2 ^ min (ji10).toNat 64)) = ji12 := (i64_w _).symm.trans hji12_
     have hji12x : (ji10) ≤ 64 → (wrap64 ((-1) * 2 ^ (ji10).toNat)) = ji12 := fun h_ => (i64_w _).symm.trans (hji12z h_)
     have c13b0 := eq_true (of_decide_eq_true zq17 : 0 ≤ (ji10))
     obtain ⟨ji14, hji14⟩ : ∃ j_ : Int, (shl .i64 1 (ji10)) = j_ := ⟨_, rfl⟩
     replace H : ((impl_in.f ji5 (ji12) (wrap64 ((ji14) - 1))).bind fun t260 => (if t260 = true then (impl_PutInt.j1 k1 ji5 x3_1) else (impl_PutInt.l0 k1 ji5 (wrap64 (x3_1 + 1))))) = some r := by first | (rw [hji14] at H; exact H) | (simp only [hji14] at H ⊢; exact H)
     have hji14_ : (IntKind.i64.wrap (1 * 2 ^ min (ji10).toNat 64)) = ji14 := hji14
     have hji14z : (ji10) ≤ 64 → (IntKind.i64.wrap (1 * 2 ^ (ji10).toNat)) = ji14 := shl_small hji14
     have hji14u : (IntKind.i64.wrap (2 ^ min (ji10).toNat 64)) = ji14 := by have h_ := hji14_; rw [Int.one_mul] at h_; exact h_
     have hji14v : (ji10) ≤ 64 → (IntKind.i64.wrap (2 ^ (ji10).toNat)) = ji14 := fun hle_ => by have h_ := hji14z hle_; rw [Int.one_mul] at h_; exact h_
     have hji14y : (wrap64 (1 * 2 ^ min (ji10).toNat 64)) = ji14 := (i64_w _).symm.trans hji14_
     have hji14x : (ji10) ≤ 64 → (wrap64 (1 * 2 ^ (ji10).toNat)) = ji14 := fun h_ => (i64_w _).symm.trans (hji14z h_)
     obtain ⟨t260, A15, H⟩ := zB H
     try dsimp only at H
     by_cases c16 : t260 = true
     ·subst c16
      rw [if_pos rfl] at H
      have H' := zA H
      clear H
      go_wp2_with (first | (go_at_call 122; refine calls_of_args (args' := #[.int .i64 ji5, .int .i64 ji12, .int .i64 (wrap64 ((ji14) - 1))]) zq152 ?_; (with_reducible refine (impl_in.calls ji5 ji12 (wrap64 ((ji14) - 1)) true _ A15.out).mono ?_); rintro e w' ⟨rfl, ⟨nd, rfl⟩⟩; (try first | exact ⟨rfl, _, World.drewN_drewN _ _ _⟩ | exact ⟨rfl, _, Eq.trans (World.drewN_drewN _ _ _) (congrArg (World.drewN _) (Nat.add_assoc _ _ _))⟩)))
      repeat (go_quiet (first | (go_at_call 122; refine calls_of_args (args' := #[.int .i64 ji5, .int .i64 ji12, .int .i64 (wrap64 ((ji14) - 1))]) zq152 ?_; (with_reducible refine (impl_in.calls ji5 ji12 (wrap64 ((ji14) - 1)) true _ A15.out).mono ?_); rintro e w' ⟨rfl, ⟨nd, rfl⟩⟩; (try first | exact ⟨rfl, _, World.drewN_drewN _ _ _⟩ | exact ⟨rfl, _, Eq.trans (World.drewN_drewN _ _ _) (congrArg (World.drewN _) (Nat.add_assoc _ _ _))⟩))); try go_wp2_with (first | (go_at_call 122; refine calls_of_args (args' := #[.int .i64 ji5, .int .i64 ji12, .int .i64 (wrap64 ((ji14) - 1))]) zq152 ?_; (with_reducible refine (impl_in.calls ji5 ji12 (wrap64 ((ji14) - 1)) true _ A15.out).mono ?_); rintro e w' ⟨rfl, ⟨nd, rfl⟩⟩; (try first | exact ⟨rfl, _, World.drewN_drewN _ _ _⟩ | exact ⟨rfl, _, Eq.trans (World.drewN_drewN _ _ _) (congrArg (World.drewN _) (Nat.add_assoc _ _ _))⟩))))
      go_meet
      case rel => exact ⟨_, (x3_1), zq25, H', ⟨(by have := HK1.out; first | omega | exact Nat.le_refl _)⟩, ⟨zq0⟩⟩
     ·replace c16 := Bool.eq_false_iff.mpr c16
      subst c16
      rw [if_neg zF] at H
      have HC17 := zA H
      clear H
      go_upto_region 4 with (first | (go_at_call 122; refine calls_of_args (args' := #[.int .i64 ji5, .int .i64 ji12, .int .i64 (wrap64 ((ji14) - 1))]) zq152 ?_; (with_reducible refine (impl_in.calls ji5 ji12 (wrap64 ((ji14) - 1)) false _ A15.out).mono ?_); rintro e w' ⟨rfl, ⟨nd, rfl⟩⟩; (try first | exact ⟨rfl, _, World.drewN_drewN _ _ _⟩ | exact ⟨rfl, _, Eq.trans (World.drewN_drewN _ _ _) (congrArg (World.drewN _) (Nat.add_assoc _ _ _))⟩)))
      repeat (go_quiet (first | (go_at_call 122; refine calls_of_args (args' := #[.int .i64 ji5, .int .i64 ji12, .int .i64 (wrap64 ((ji14) - 1))]) zq152 ?_; (with_reducible refine (impl_in.calls ji5 ji12 (wrap64 ((ji14) - 1)) false _ A15.out).mono ?_); rintro e w' ⟨rfl, ⟨nd, rfl⟩⟩; (try first | exact ⟨rfl, _, World.drewN_drewN _ _ _⟩ | exact ⟨rfl, _, Eq.trans (World.drewN_drewN _ _ _) (congrArg (World.drewN _) (Nat.add_assoc _ _ _))⟩))); go_upto_region 4 with (first | (go_at_call 122; refine calls_of_args (args' := #[.int .i64 ji5, .int .i64 ji12, .int .i64 (wrap64 ((ji14) - 1))]) zq152 ?_; (with_reducible refine (impl_in.calls ji5 ji12 (wrap64 ((ji14) - 1)) false _ A15.out).mono ?_); rintro e w' ⟨rfl, ⟨nd, rfl⟩⟩; (try first | exact ⟨rfl, _, World.drewN_drewN _ _ _⟩ | exact ⟨rfl, _, Eq.trans (World.drewN_drewN _ _ _) (congrArg (World.drewN _) (Nat.add_assoc _ _ _))⟩))))
      (try simp only [Act.put, List.setIfInBounds_toArray, List.set_cons_zero, List.set_cons_succ])
      have H := HC17.out
      clear HC17
      have H' := zA H
      clear H
      go_wp2
      repeat (go_quiet (fail); try go_wp2)
      go_roundg k1
      case measure => have := HK1.out; omega
      case rel => exact ⟨(wrap64 (x3_1 + 1)), zq25, H', ⟨zq190⟩, ⟨zq0⟩⟩
    ·rw [if_neg c9] at H
     have c9b0 : decide (x3_1 < 4) = false := decide_eq_false c9
     clear c9
     (first | rw [c9b0] | (simp only [i64_w, i32_w]; rw [c9b0]) | skip)
     have H' := zA H
     clear H
     go_wp2
     repeat (go_quiet (fail); try go_wp2)
     go_meet
     case rel => exact ⟨_, (x3_1), zq25, H', ⟨(by have := HK1.out; first | omega | exact Nat.le_refl _)⟩, ⟨zq0⟩⟩
 case rest =>
  clear HC7
  try clear c1
  try clear p2
  try clear p6
  try clear c9
  try clear c9b0
  try clear c11
  try clear c11b0
  try clear c11b1
  try clear c13
  try clear c13b0
  try clear c15
  try clear c16
  try clear p2
  obtain ⟨kq, x3_6, rfl, HA, HJ6, HB⟩ := hcut
  cases kq with
  | zero => exact absurd HA.out (by simp [impl_PutInt.j1])
  | succ kj6 =>
   have H := HA.out
   clear HA
   simp only [impl_PutInt.j1] at H
   have HC18 := zA H
   clear H
   go_upto_region 5 with (fail)
   repeat (go_quiet (fail); go_upto_region 5 with (fail))
   have H := HC18.out
   clear HC18
   have HC19 := zA H
   clear H
   go_upto_region 6 with (fail)
   repeat (go_quiet (fail); go_upto_region 6 with (fail))
   have H := HC19.out
   clear HC19
   have H' := zA H
   clear H
   go_wp2
   repeat (go_quiet (fail); try go_wp2)
   go_loopg [4, 5] kj6 (fun kq v4 v5 w' => ∃ (x4_2 : List Int) (x5_2 : Int), v5 = .int .i64 x5_2 ∧ Aside0 (impl_PutInt.l1 kq ji5 x4_2 x5_2 = some r) ∧ Aside0 (kq ≤ kj6) ∧ Aside0 (Kd.R (Kd.int .u8) 5 w' w.heap.size (fun _ => True) v4 x4_2) ∧ Aside0 (Below w.heap.size w w'))
   case atStart => exact ⟨(([] : List Int)), (wrap64 (x3_6 - 1)), zq25, H', ⟨Nat.le_refl _⟩, ⟨zq20⟩, ⟨zq0⟩⟩
   case round =>
    clear H'
    try clear c1
    try clear p2
    try clear p6
    try clear c9
    try clear c9b0
    try clear c11
    try clear c11b0
    try clear c11b1
    try clear c13
    try clear c13b0
    try clear c15
    try clear c16
    try clear p2
    try clear p6
    obtain ⟨x4_2, x5_2, rfl, HA, HK2, HO_4, HB⟩ := hrel
    cases gk with
    | zero => exact absurd HA.out (by simp [impl_PutInt.l1])
    | succ k2 =>
     have H := HA.out
     clear HA
     simp only [impl_PutInt.l1] at H
     have HC20 := zA H
     clear H
     go_upto_region 7 with (fail)
     repeat (go_quiet (fail); go_upto_region 7 with (fail))
     have H := HC20.out
     clear HC20
     by_cases c21 : x5_2 ≥ 0
     ·rw [if_pos c21] at H
      have c21b0 : decide (0 ≤ x5_2) = true := decide_eq_true c21
      clear c21
      have HC22 := zA H
      clear H
      go_upto_region 9 with (fail)
      repeat (go_quiet (fail); go_upto_region 9 with (fail))
      have H := HC22.out
      clear HC22
      obtain ⟨ji23, hji23⟩ : ∃ j_ : Int, (wrap64 (8 * x5_2)) = j_ := ⟨_, rfl⟩
      replace H : (if 0 ≤ (ji23) then (if x4_2.length < 140737488355328 then (impl_PutInt.l1 k2 ji5 (x4_2 ++ [(shr .i64 ji5 (ji23)) % 256]) (wrap64 (x5_2 - 1))) else (none)) else (none)) = some r := by first | (rw [hji23] at H; exact H) | (simp only [hji23] at H ⊢; exact H)
      have hji23w : (IntKind.i64.wrap (8 * x5_2)) = ji23 := (i64_w _).trans hji23
      obtain ⟨c24, H⟩ := zN H
      have c24b0 := eq_true c24
      have c24b1 : decide (0 ≤ (ji23)) = true := decide_eq_true c24
      clear c24
      obtain ⟨ji25, hji25⟩ : ∃ j_ : Int, (shr .i64 ji5 (ji23)) = j_ := ⟨_, rfl⟩
      replace H : (if x4_2.length < 140737488355328 then (impl_PutInt.l1 k2 ji5 (x4_2 ++ [(ji25) % 256]) (wrap64 (x5_2 - 1))) else (none)) = some r := by first | (rw [hji25] at H; exact H) | (simp only [hji25] at H ⊢; exact H)
      have hji25_ : (ji5 / 2 ^ min (ji23).toNat 64) = ji25 := hji25
      have hji25z : (ji23) ≤ 64 → (ji5 / 2 ^ (ji23).toNat) = ji25 := shr_small hji25
      obtain ⟨c26, H⟩ := zN H
      have LMc26 := zA c26
      clear c26
      obtain ⟨y261, hy261⟩ : ∃ y_ : List Int, y_ = (x4_2 ++ [(ji25) % 256]) := ⟨_, rfl⟩
      rw [← hy261] at H
      have Ny261 := zA hy261
      clear hy261
      have HC27 := zA H
      clear H
      go_upto_region 8 with (first | ((with_reducible refine gate_builtin (b := .append) (xs := #[.tmp 33, .tmp 39]) rfl ?_); at_builtin; refine Kd.R_append (Kd.int .u8) (w0 := w) w.heap.size rfl (.tmp 33) (.tmp 39) 22 5 (.int .u8 0) 1 rfl Try.underlying22 info5 rfl zq40 zq177 u4 x4_2 ((ji25) % 256) [.int .u8 ((ji25) % 256)] (fun _ => True) (fun _ => False) rfl rfl ?aP (fun _ hk => hk.elim) ?aF ?aO ?aB ?aS ?aL ?_; (case aP => exact rfl); (case aB => exact zq0); (case aF => exact (fun _ _ => trivial)); (case aO => exact zq72); (case aS => exact (below_size zq0)); (case aL => have := LMc26.out; omega); intro v262 w28 ho hb hg hat; rw [← Ny261.out] at ho; replace HB := zA (hb); have HO263 := zA (ho); clear HO_4; clear ho hb hg hat))
      repeat (go_quiet (first | ((with_reducible refine gate_builtin (b := .append) (xs := #[.tmp 33, .tmp 39]) rfl ?_); at_builtin; refine Kd.R_append (Kd.int .u8) (w0 := w) w.heap.size rfl (.tmp 33) (.tmp 39) 22 5 (.int .u8 0) 1 rfl Try.underlying22 info5 rfl zq40 zq177 u4 x4_2 ((ji25) % 256) [.int .u8 ((ji25) % 256)] (fun _ => True) (fun _ => False) rfl rfl ?aP (fun _ hk => hk.elim) ?aF ?aO ?aB ?aS ?aL ?_; (case aP => exact rfl); (case aB => exact zq0); (case aF => exact (fun _ _ => trivial)); (case aO => exact zq72); (case aS => exact (below_size zq0)); (case aL => have := LMc26.out; omega); intro v262 w28 ho hb hg hat; rw [← Ny261.out] at ho; replace HB := zA (hb); have HO263 := zA (ho); clear HO_4; clear ho hb hg hat)); go_upto_region 8 with (first | ((with_reducible refine gate_builtin (b := .append) (xs := #[.tmp 33, .tmp 39]) rfl ?_); at_builtin; refine Kd.R_append (Kd.int .u8) (w0 := w) w.heap.size rfl (.tmp 33) (.tmp 39) 22 5 (.int .u8 0) 1 rfl Try.underlying22 info5 rfl zq40 zq177 u4 x4_2 ((ji25) % 256) [.int .u8 ((ji25) % 256)] (fun _ => True) (fun _ => False) rfl rfl ?aP (fun _ hk => hk.elim) ?aF ?aO ?aB ?aS ?aL ?_; (case aP => exact rfl); (case aB => exact zq0); (case aF => exact (fun _ _ => trivial)); (case aO => exact zq72); (case aS => exact (below_size zq0)); (case aL => have := LMc26.out; omega); intro v262 w28 ho hb hg hat; rw [← Ny261.out] at ho; replace HB := zA (hb); have HO263 := zA (ho); clear HO_4; clear ho hb hg hat)))
      (try simp only [Act.put, List.setIfInBounds_toArray, List.set_cons_zero, List.set_cons_succ])
      have H := HC27.out
      clear HC27
      have H' := zA H
      clear H
      go_wp2
      repeat (go_quiet (fail); try go_wp2)
      go_roundg k2
      case measure => have := HJ6.out; have := HK2.out; omega
      case rel => exact ⟨(y261), (wrap64 (x5_2 - 1)), zq25, H', ⟨(by have := HJ6.out; have := HK2.out; omega)⟩, ⟨(by (with_reducible repeat (first | apply Kd.R_alloc | apply Kd.R_drewN | apply Kd.R_drew)); exact HO263.out)⟩, ⟨zq0⟩⟩
     ·rw [if_neg c21] at H
      have c21b0 : decide (0 ≤ x5_2) = false := decide_eq_false c21
      clear c21
      have HC29 := zA H
      clear H
      go_upto_region 10 with (fail)
      repeat (go_quiet (fail); go_upto_region 10 with (fail))
      have H := HC29.out
      clear HC29
      obtain rfl := Option.some.inj H
      go_wp2
      repeat (go_quiet (fail); try go_wp2)
      go_ret
      exact ⟨_, (by first | rfl | (simp [errW_none, errW_some] <;> rfl) | (simp only [← hji4, ← hji5]; first | rfl | (simp [errW_none, errW_some] <;> rfl)) | (simp [*, errW_none, errW_some] <;> rfl)), zq72, zq0⟩

/-! ### impl_addNum: function 109 -/
def impl_addNum.f (k : Nat) (l0 : List Int) (a1 : Int) (a2 : Int) : Option (List Int) := (impl_PutInt.f k a2).bind fun t264 => ((impl_PutTlv.f k l0 a1 t264).bind fun t267 => (some t267))
theorem impl_addNum.mono : ∀ a0 a1 a2 k, LeO (impl_addNum.f k a0 a1 a2) (impl_addNum.f (k + 1) a0 a1 a2) := by
 intro a0 a1 a2 k
 unfold impl_addNum.f
 have m0_ := @impl_PutInt.mono
 have m1_ := @impl_PutTlv.mono
 exact zR
set_option maxHeartbeats 8000000 in
set_option maxRecDepth 100000 in
theorem impl_addNum.calls (k : Nat) (A0 : Option Addr) (c0 : Nat) (l0 : List Int) (a1 : Int) (a2 : Int) (r : List Int) (w : World) (hr0 : Kd.C (Kd.int .u8) w A0 l0.length l0) (hc0 : l0.length ≤ c0) (h : impl_addNum.f k l0 a1 a2 = some r) :
  Calls Try.prog 109 #[.slice A0 l0.length c0, .int .i64 a1, .int .i64 a2] w fun e w' => ∃ v0_ : Value, e = .returned (v0_) ∧ Kd.R (Kd.int .u8) 5 w' w.heap.size (fun _ => True) v0_ r ∧ Below w.heap.size w w' := by
 have HR0 := zA hr0
 have HC0 := zA hc0
 clear hr0 hc0
 have HB := zA (Below.refl w.heap.size w)
 unfold impl_addNum.f at h
 have H := h
 clear h
 have HC4 := zA H
 clear H
 go_enter Try.func109, Try.ntmps109
 go_upto_region 0 with (fail)
 have H := HC4.out
 clear HC4
 have HC5 := zA H
 clear H
 go_upto_region 1 with (fail)
 have H := HC5.out
 clear HC5
 obtain ⟨t264, A6, H⟩ := zB H
 try dsimp only at H
 obtain ⟨t267, A7, H⟩ := zB H
 try dsimp only at H
 obtain rfl := Option.some.inj H
 go_wp2_with (first | ((with_reducible refine gate_callee (f := 156) rfl ?_); refine goesL_ (some 10) rfl rfl Try.func156 (by kernel_rfl) rfl #[.int .i64 a2] rfl zq1 ?_; (with_reducible refine (impl_PutInt.calls k a2 t264 _ A6.out).mono ?_); rintro e w8 ⟨v265, rfl, ho0, hb⟩; refine ⟨_, rfl, ?_⟩; have HO266 := zA (Kd.R_lower ho0 (below_size zq0)); replace HB := zA (below_step zq0 hb); clear hb ho0; obtain ⟨Ao9, co9, eo9⟩ := Kd.R_slice HO266.out; subst eo9) | ((with_reducible refine gate_callee (f := 107) rfl ?_); refine goesL_ (some 11) rfl rfl Try.func107 (by kernel_rfl) rfl #[.slice A0 l0.length c0, .int .i64 a1, .slice Ao9 t264.length co9] rfl zq1 ?_; (with_reducible refine (impl_PutTlv.calls k _ _ l0 a1 _ _ t264 t267 _ ?side1 ?side2 ?side3 ?side4 A7.out).mono ?_); (case side1 => repeat (first | exact (Kd.C_below HR0.out HB.out) | (with_reducible refine Kd.C_alloc ?_ _) | (with_reducible refine Kd.C_drewN ?_ _) | (with_reducible refine Kd.C_drew ?_))); (case side2 => exact HC0.out); (case side3 => repeat (first | exact (Kd.R_reads' HO266.out).2.2 | (with_reducible refine Kd.C_alloc ?_ _) | (with_reducible refine Kd.C_drewN ?_ _) | (with_reducible refine Kd.C_drew ?_))); (case side4 => exact (Kd.R_reads' HO266.out).2.1); rintro e w10 ⟨v268, rfl, ho0, hb⟩; refine ⟨_, rfl, ?_⟩; have HO269 := zA (Kd.R_lower (Kd.R_new' ho0 (Kd.R_lt zq195)) (below_size zq0)); replace HO266 := zA (Kd.R_elder' zq195 (Kd.R_base ho0) hb); replace HB := zA (below_step zq0 hb); clear hb ho0))
 go_ret
 exact ⟨_, zq5, (by (with_reducible repeat (first | apply Kd.R_alloc | apply Kd.R_drewN | apply Kd.R_drew)); exact Kd.R_mono HO269.out (fun _ hk => trivial)), zq0⟩

end Go.Proofs.Ytkcgghgkmgbphaa.PFnFrames
