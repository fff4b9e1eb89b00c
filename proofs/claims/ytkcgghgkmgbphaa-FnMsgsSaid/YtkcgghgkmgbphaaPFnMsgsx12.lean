-- WRITTEN BY a turned copy of the kit's printer (wip/patch_print.py), for this claim
import Derived.Test.YtkcgghgkmgbphaaPFnMsgsx0
import Derived.Test.YtkcgghgkmgbphaaPFnMsgsx9
namespace Go.Proofs.Ytkcgghgkmgbphaa.PFnMsgs
open Go.RowKit Go.Proofs.YtkcgghgkmgbphaaW.PrintWords Go.Proofs.YtkcgghgkmgbphaaW.PrintLast Go.Proofs.YtkcgghgkmgbphaaW.PrintMore
attribute [local go_sem] max2_int min2_int max_two min_two max_three min_three max_four min_four   -- for this text's walks alone
set_option linter.unusedVariables false
set_option linter.unusedSimpArgs false
set_option maxHeartbeats 8000000
set_option maxRecDepth 100000

/-! ### impl_tlv: function 106 -/
def impl_tlv.j0 : Nat → Int → List Int → Bool → Option (List Int × Bool)
 | 0, _, _, _ => none
 | k + 1, x0, x1, x14 => if x14 = true then (some (([] : List Int), false)) else ((some (([(x0) % 256] : List Int) : List Int)).bind fun y351 => (if (x1.length : Int) ≥ 128 then (if y351.length < 140737488355328 then ((some (y351 ++ [129] : List Int)).bind fun y354 => (if y354.length < 140737488355328 then ((some (y354 ++ [((x1.length : Int)) % 256] : List Int)).bind fun y357 => (if y357.length + x1.length < 140737488355328 then (some ((y357 ++ x1), true)) else (none))) else (none))) else (none)) else (if y351.length < 140737488355328 then ((some (y351 ++ [((x1.length : Int)) % 256] : List Int)).bind fun y363 => (if y363.length + x1.length < 140737488355328 then (some ((y363 ++ x1), true)) else (none))) else (none))))
def impl_tlv.f (k : Nat) (a0 : Int) (l1 : List Int) : Option (List Int × Bool) := (impl_in.f a0 0 255).bind fun t350 => (if t350 = true then (impl_tlv.j0 k a0 l1 (decide ((l1.length : Int) > 250))) else (impl_tlv.j0 k a0 l1 true))
theorem impl_tlv.mono_l : ∀ k, (∀ y0 y1 y2, LeO (impl_tlv.j0 k y0 y1 y2) (impl_tlv.j0 (k + 1) y0 y1 y2))
 | 0 => fun _ _ _ r h => by simp [impl_tlv.j0] at h
 | k + 1 => by
  have ih0 := impl_tlv.mono_l k
  ·intro y0 y1 y2
   unfold impl_tlv.j0
   exact zR
theorem impl_tlv.mono : ∀ a0 a1 k, LeO (impl_tlv.f k a0 a1) (impl_tlv.f (k + 1) a0 a1) := by
 intro a0 a1 k
 have ih0 := impl_tlv.mono_l k
 unfold impl_tlv.f
 exact zR
theorem impl_tlv.calls (k : Nat) (a0 : Int) (A1 : Option Addr) (c1 : Nat) (l1 : List Int) (r1 : List Int) (r2 : Bool) (w : World) (hr1 : Kd.C (Kd.int .u8) w A1 l1.length l1) (hc1 : l1.length ≤ c1) (h : impl_tlv.f k a0 l1 = some (r1, r2)) :
  Calls Try.prog 106 #[.int .i64 a0, .slice A1 l1.length c1] w fun e w' => ∃ v0_ : Value, e = .returned (.tuple #[v0_, .bool r2]) ∧ Kd.R (Kd.int .u8) 5 w' w.heap.size (fun _ => True) v0_ r1 ∧ Below w.heap.size w w' := by
 have HR1 := zA hr1
 have HC1 := zA hc1
 clear hr1 hc1
 have HB := zA (Below.refl w.heap.size w)
 unfold impl_tlv.f at h
 have H := zA h
 clear h
 go_enter Try.func106, Try.ntmps106
 go_upto_region 0 with fail
 go_upto_region 1 with fail
 go_upto_region 1 with fail
 go_cut [14] (fun v14 wc => ∃ (kq : Nat) (x14_4 : Bool), v14 = .bool x14_4 ∧ Aside0 (impl_tlv.j0 kq a0 l1 x14_4 = some (r1, r2)) ∧ Aside0 (kq ≤ k) ∧ Aside0 (Below w.heap.size w wc))
 case first =>
  replace H := zB H; obtain ⟨t350, A6, H⟩ := H
  try dsimp only at H
  replace H := zE H; rcases H with ⟨rfl, H⟩ | ⟨rfl, H⟩
  ·have H' := H
   clear H
   go_wp2_with (first | ((with_reducible refine zg122 rfl ?_); refine zl122 (some 8) #[.int .i64 a0, .int .i64 0, .int .i64 255] ?_; (with_reducible refine (impl_in.calls a0 0 255 true _ A6.out).mono ?_); rintro e w' ⟨rfl, ⟨nd, rfl⟩⟩; refine ⟨_, rfl, ?_⟩))
   go_meet
   case rel => exact ⟨_, (decide ((l1.length : Int) > 250)), zq15, H', ⟨zq120⟩, ⟨zq0⟩⟩
  have H' := H
  clear H
  go_wp2_with (first | ((with_reducible refine zg122 rfl ?_); refine zl122 (some 8) #[.int .i64 a0, .int .i64 0, .int .i64 255] ?_; (with_reducible refine (impl_in.calls a0 0 255 false _ A6.out).mono ?_); rintro e w' ⟨rfl, ⟨nd, rfl⟩⟩; refine ⟨_, rfl, ?_⟩))
  go_meet
  case rel => exact ⟨_, (true), zq15, H', ⟨zq120⟩, ⟨zq0⟩⟩
 case rest =>
  try clear c1
  try clear p2
  try clear c7
  obtain ⟨kq, x14_4, rfl, HA, HJ4, HB⟩ := hcut
  cases kq with
  | zero => exact absurd HA.out (by simp [impl_tlv.j0])
  | succ kj4 =>
   have H := HA
   clear HA
   simp only [impl_tlv.j0] at H
   replace H := zE H; rcases H with ⟨rfl, H⟩ | ⟨rfl, H⟩
   ·go_upto_region 2 with fail
    obtain ⟨rfl, rfl⟩ := zt2 H
    go_wp2
    go_ret2
    exact ⟨_, zq1, zq7, zq0⟩
   go_upto_region 3 with fail
   replace H := zS (([(a0) % 256] : List Int)) H; obtain ⟨y351, Ny351, H⟩ := H
   go_upto_region 4 with (first | ((with_reducible refine gate_dst (N := 17) rfl ?_); (try (refine gate_guard zq94 ?_; dsimp only)); refine Kd.R_lit (Kd.int .u8) _ 5 ?hg (N := 17) ?hd (xs := ([(a0) % 256] : List Int)) (inner := [.int .u8 ((a0) % 256)]) (ok := fun _ => True) (okp := fun _ => True) ?hr ?hp (fun _ hk => hk) trivial (Below.refl _ _) (Nat.le_refl _) zq219 ?_; (case hd => rfl); (case hg => rfl); (case hr => exact zgs); (case hp => exact (Reps.one (show Kd.M (Kd.int .u8) _ _ _ ((a0) % 256) [.int .u8 ((a0) % 256)] from rfl) (Reps.none _ _))); intro v352 w12 ho13 hb hg_ hnew_; clear hg_ hnew_; (first | rw [← Ny351.out] at ho13 | (simp only [Int.reduceToNat] at ho13; rw [← Ny351.out] at ho13)); have HO353 := zA (Kd.R_lower ho13 (below_size zq0)); replace HB := zA (below_step zq0 hb); clear hb ho13))
   (try simp only [zvs])
   replace H := zP H; rcases H with ⟨c14, H⟩ | ⟨c14, H⟩
   ·have c14b0 : decide (128 ≤ (l1.length : Int)) = true := decide_eq_true c14
    have c14b1 : decide (128 ≤ l1.length) = true := decide_eq_true zq183
    clear c14
    go_upto_region 5 with fail
    replace H := zN H; obtain ⟨c16, H⟩ := H
    have LMc16 := zA c16
    clear c16
    replace H := zS (y351 ++ [129]) H; obtain ⟨y354, Ny354, H⟩ := H
    go_upto_region 6 with (first | ((with_reducible refine gate_builtin (b := .append) (xs := #[.tmp 21, .tmp 22]) rfl ?_); (try (refine gate_guard zq94 ?_; dsimp only)); at_builtin; refine Kd.R_append (Kd.int .u8) (w0 := w) w.heap.size rfl (.tmp 21) (.tmp 22) 22 5 (.int .u8 0) 1 rfl Try.underlying22 info5 rfl zq52 zq183 v352 y351 129 [.int .u8 129] (fun _ => True) (fun _ => False) rfl rfl ?aP (fun _ hk => hk.elim) ?aF ?aO ?aB ?aS ?aL ?_; (case aP => exact rfl); (case aB => exact zq0); (case aF => exact (fun _ _ => trivial)); (case aO => exact (zrk HO353.out)); (case aS => exact (below_size zq0)); (case aL => have := LMc16.out; omega); intro v355 w18 ho hb hg hat; rw [← Ny354.out] at ho; replace HB := zA (hb); have HO356 := zA (ho); clear HO353; clear ho hb hg hat))
    (try simp only [zvs])
    (try (rw [drewN_self w18]; generalize hq_ : World.drewN w18 _ = w18; replace HO356 := zA (Kd.R_at hq_ HO356.out); replace HB := zA (below_at hq_ HB.out); clear hq_))
    replace H := zN H; obtain ⟨c19, H⟩ := H
    have LMc19 := zA c19
    clear c19
    replace H := zS (y354 ++ [((l1.length : Int)) % 256]) H; obtain ⟨y357, Ny357, H⟩ := H
    replace H := zN H; obtain ⟨c20, H⟩ := H
    have LMc20 := zA c20
    clear c20
    obtain ⟨y360, hy360⟩ : ∃ y_ : List Int, y_ = (y357 ++ l1) := ⟨_, rfl⟩
    rw [← hy360] at H
    have Ny360 := zA hy360
    clear hy360
    obtain ⟨rfl, rfl⟩ := zt2 H
    go_wp2_with (first | ((with_reducible refine gate_builtin (b := .append) (xs := #[.tmp 24, .tmp 28]) rfl ?_); (try (refine gate_guard zq94 ?_; dsimp only)); at_builtin; refine Kd.R_append (Kd.int .u8) (w0 := w) w.heap.size rfl (.tmp 24) (.tmp 28) 22 5 (.int .u8 0) 1 rfl Try.underlying22 info5 rfl zq52 zq183 v355 y354 (((l1.length : Int)) % 256) [.int .u8 (((l1.length : Int)) % 256)] (fun _ => True) (fun _ => False) rfl rfl ?aP (fun _ hk => hk.elim) ?aF ?aO ?aB ?aS ?aL ?_; (case aP => exact rfl); (case aB => exact zq0); (case aF => exact (fun _ _ => trivial)); (case aO => exact (zrk HO356.out)); (case aS => exact (below_size zq0)); (case aL => have := LMc19.out; omega); intro v358 w21 ho hb hg hat; rw [← Ny357.out] at ho; replace HB := zA (hb); have HO359 := zA (ho); clear HO356; clear ho hb hg hat) | ((with_reducible refine gate_builtin (b := .append) (xs := #[.tmp 29, .tmp 30]) rfl ?_); (try (refine gate_guard zq94 ?_; dsimp only)); at_builtin; refine Kd.R_append_rows (Kd.int .u8) (w0 := w) w.heap.size rfl (.tmp 29) (.tmp 30) 22 5 (.int .u8 0) 1 rfl Try.underlying22 info5 rfl zq52 zq183 v358 y357 l1 _ _ _ (fun _ => True) (fun _ => False) rfl rfl ?aO ?aR (fun _ _ h => h) (fun _ h => h.elim) ?aF ?aB ?aS ?aL ?_; (case aR => exact zq202); (case aB => exact zq0); (case aF => exact (fun _ _ => trivial)); (case aO => exact (zrk HO359.out)); (case aS => exact (below_size zq0)); (case aL => have := LMc20.out; omega); intro v361 w22 ho hb hg hat; rw [← Ny360.out] at ho; replace HB := zA (hb); have HO362 := zA (ho); clear HO359; clear ho hb hg hat))
    go_ret2
    exact ⟨_, zq1, (zrk HO362.out), zq0⟩
   have c14b0 : decide (128 ≤ (l1.length : Int)) = false := decide_eq_false c14
   have c14b1 : decide (128 ≤ l1.length) = false := decide_eq_false zq183
   clear c14
   go_upto_region 6 with fail
   replace H := zN H; obtain ⟨c24, H⟩ := H
   have LMc24 := zA c24
   clear c24
   replace H := zS (y351 ++ [((l1.length : Int)) % 256]) H; obtain ⟨y363, Ny363, H⟩ := H
   replace H := zN H; obtain ⟨c25, H⟩ := H
   have LMc25 := zA c25
   clear c25
   obtain ⟨y366, hy366⟩ : ∃ y_ : List Int, y_ = (y363 ++ l1) := ⟨_, rfl⟩
   rw [← hy366] at H
   have Ny366 := zA hy366
   clear hy366
   obtain ⟨rfl, rfl⟩ := zt2 H
   go_wp2_with (first | ((with_reducible refine gate_builtin (b := .append) (xs := #[.tmp 24, .tmp 28]) rfl ?_); (try (refine gate_guard zq94 ?_; dsimp only)); at_builtin; refine Kd.R_append (Kd.int .u8) (w0 := w) w.heap.size rfl (.tmp 24) (.tmp 28) 22 5 (.int .u8 0) 1 rfl Try.underlying22 info5 rfl zq52 zq183 v352 y351 (((l1.length : Int)) % 256) [.int .u8 (((l1.length : Int)) % 256)] (fun _ => True) (fun _ => False) rfl rfl ?aP (fun _ hk => hk.elim) ?aF ?aO ?aB ?aS ?aL ?_; (case aP => exact rfl); (case aB => exact zq0); (case aF => exact (fun _ _ => trivial)); (case aO => exact (zrk HO353.out)); (case aS => exact (below_size zq0)); (case aL => have := LMc24.out; omega); intro v364 w26 ho hb hg hat; rw [← Ny363.out] at ho; replace HB := zA (hb); have HO365 := zA (ho); clear HO353; clear ho hb hg hat) | ((with_reducible refine gate_builtin (b := .append) (xs := #[.tmp 29, .tmp 30]) rfl ?_); (try (refine gate_guard zq94 ?_; dsimp only)); at_builtin; refine Kd.R_append_rows (Kd.int .u8) (w0 := w) w.heap.size rfl (.tmp 29) (.tmp 30) 22 5 (.int .u8 0) 1 rfl Try.underlying22 info5 rfl zq52 zq183 v364 y363 l1 _ _ _ (fun _ => True) (fun _ => False) rfl rfl ?aO ?aR (fun _ _ h => h) (fun _ h => h.elim) ?aF ?aB ?aS ?aL ?_; (case aR => exact zq202); (case aB => exact zq0); (case aF => exact (fun _ _ => trivial)); (case aO => exact (zrk HO365.out)); (case aS => exact (below_size zq0)); (case aL => have := LMc25.out; omega); intro v367 w27 ho hb hg hat; rw [← Ny366.out] at ho; replace HB := zA (hb); have HO368 := zA (ho); clear HO365; clear ho hb hg hat))
   go_ret2
   exact ⟨_, zq1, (zrk HO368.out), zq0⟩

/-! ### impl_copyBytes: function 155 -/
def impl_copyBytes.f (l0 : List Int) : Option (List Int) := if ([] : List Int).length + l0.length < 140737488355328 then (some (([] : List Int) ++ l0)) else (none)
theorem impl_copyBytes.calls (A0 : Option Addr) (c0 : Nat) (l0 : List Int) (r : List Int) (w : World) (hr0 : Kd.C (Kd.int .u8) w A0 l0.length l0) (hc0 : l0.length ≤ c0) (h : impl_copyBytes.f l0 = some r) :
  Calls Try.prog 155 #[.slice A0 l0.length c0] w fun e w' => ∃ v0_ : Value, e = .returned (v0_) ∧ Kd.R (Kd.int .u8) 5 w' w.heap.size (fun _ => True) v0_ r ∧ Below w.heap.size w w' := by
 have HR0 := zA hr0
 have HC0 := zA hc0
 clear hr0 hc0
 have HB := zA (Below.refl w.heap.size w)
 unfold impl_copyBytes.f at h
 have H := zA h
 clear h
 go_enter Try.func155, Try.ntmps155
 go_upto_region 0 with fail
 go_upto_region 1 with fail
 replace H := zN H; obtain ⟨c4, H⟩ := H
 have LMc4 := zA c4
 clear c4
 obtain ⟨y369, hy369⟩ : ∃ y_ : List Int, y_ = (([] : List Int) ++ l0) := ⟨_, rfl⟩
 rw [← hy369] at H
 have Ny369 := zA hy369
 clear hy369
 obtain rfl := zi H
 go_wp2_with (first | ((with_reducible refine gate_builtin (b := .append) (xs := #[.const (.slice none 0 0), .tmp 3]) rfl ?_); at_builtin; refine Kd.R_append_rows (Kd.int .u8) (w0 := w) w.heap.size rfl (.const (.slice none 0 0)) (.tmp 3) 22 5 (.int .u8 0) 1 rfl Try.underlying22 info5 rfl zq52 zq183 (.slice none 0 0) ([] : List Int) l0 _ _ _ (fun _ => True) (fun _ => False) rfl rfl ?aO ?aR (fun _ _ h => h) (fun _ h => h.elim) ?aF ?aB ?aS ?aL ?_; (case aR => exact zq18); (case aB => exact zq0); (case aF => exact (fun _ _ => trivial)); (case aO => exact ((Kd.R_nil _ _ _ _ (fun _ => True)))); (case aS => exact (below_size zq0)); (case aL => have := LMc4.out; omega); intro v370 w5 ho hb hg hat; rw [← Ny369.out] at ho; replace HB := zA (hb); have HO371 := zA (ho); clear ho hb hg hat))
 go_ret
 exact ⟨_, zq1, (zrk HO371.out), zq0⟩

/-! ### impl_PutTlv: function 107 -/
def impl_PutTlv.f (k : Nat) (l0 : List Int) (a1 : Int) (l2 : List Int) : Option (List Int) := (impl_tlv.f k a1 l2).bind fun bt372 => ((impl_copyBytes.f l0).bind fun t376 => (if t376.length + bt372.1.length < 140737488355328 then (some (t376 ++ bt372.1)) else (none)))
theorem impl_PutTlv.mono : ∀ a0 a1 a2 k, LeO (impl_PutTlv.f k a0 a1 a2) (impl_PutTlv.f (k + 1) a0 a1 a2) := by
 intro a0 a1 a2 k
 unfold impl_PutTlv.f
 have m0_ := @impl_tlv.mono
 exact zR
theorem impl_PutTlv.calls (k : Nat) (A0 : Option Addr) (c0 : Nat) (l0 : List Int) (a1 : Int) (A2 : Option Addr) (c2 : Nat) (l2 : List Int) (r : List Int) (w : World) (hr0 : Kd.C (Kd.int .u8) w A0 l0.length l0) (hc0 : l0.length ≤ c0) (hr2 : Kd.C (Kd.int .u8) w A2 l2.length l2) (hc2 : l2.length ≤ c2) (h : impl_PutTlv.f k l0 a1 l2 = some r) :
  Calls Try.prog 107 #[.slice A0 l0.length c0, .int .i64 a1, .slice A2 l2.length c2] w fun e w' => ∃ v0_ : Value, e = .returned (v0_) ∧ Kd.R (Kd.int .u8) 5 w' w.heap.size (fun _ => True) v0_ r ∧ Below w.heap.size w w' := by
 have HR0 := zA hr0
 have HC0 := zA hc0
 clear hr0 hc0
 have HR2 := zA hr2
 have HC2 := zA hc2
 clear hr2 hc2
 have HB := zA (Below.refl w.heap.size w)
 unfold impl_PutTlv.f at h
 have H := zA h
 clear h
 go_enter Try.func107, Try.ntmps107
 go_upto_region 0 with fail
 go_upto_region 1 with fail
 replace H := zB H; obtain ⟨⟨t372, t373⟩, A6, H⟩ := H
 try dsimp only at H
 go_upto_region 2 with (first | ((with_reducible refine zg106 rfl ?_); refine zl106 (some 12) #[.int .i64 a1, .slice A2 l2.length c2] ?_; (with_reducible refine (impl_tlv.calls k a1 _ _ l2 t372 t373 _ ?side1 ?side2 A6.out).mono ?_); (case side1 => exact zq201); (case side2 => exact HC2.out); rintro e w8 ⟨v374, rfl, ho0, hb⟩; refine ⟨_, rfl, ?_⟩; have HO375 := zA (Kd.R_lower ho0 (below_size zq0)); replace HB := zA (below_step zq0 hb); clear hb ho0))
 (try simp only [zvs])
 replace H := zB H; obtain ⟨t376, A9, H⟩ := H
 try dsimp only at H
 replace H := zN H; obtain ⟨c10, H⟩ := H
 have LMc10 := zA c10
 clear c10
 obtain ⟨y379, hy379⟩ : ∃ y_ : List Int, y_ = (t376 ++ t372) := ⟨_, rfl⟩
 rw [← hy379] at H
 have Ny379 := zA hy379
 clear hy379
 obtain rfl := zi H
 go_wp2_with (first | ((with_reducible refine zg155 rfl ?_); refine zl155 (some 16) #[.slice A0 l0.length c0] ?_; (with_reducible refine (impl_copyBytes.calls _ _ l0 t376 _ ?side1 ?side2 A9.out).mono ?_); (case side1 => exact zq18); (case side2 => exact HC0.out); rintro e w11 ⟨v377, rfl, ho0, hb⟩; refine ⟨_, rfl, ?_⟩; have HO378 := zA (Kd.R_lower (Kd.R_new' ho0 (Kd.R_lt (zrk HO375.out))) (below_size zq0)); replace HO375 := zA (Kd.R_elder' (zrk HO375.out) (Kd.R_base ho0) hb); replace HB := zA (below_step zq0 hb); clear hb ho0; obtain ⟨Ao13, co13, eo13⟩ := Kd.R_slice HO375.out; subst eo13) | ((with_reducible refine gate_builtin (b := .append) (xs := #[.tmp 16, .tmp 17]) rfl ?_); at_builtin; refine Kd.R_append_rows (Kd.int .u8) (w0 := w) w.heap.size rfl (.tmp 16) (.tmp 17) 22 5 (.int .u8 0) 1 rfl Try.underlying22 info5 rfl zq52 zq183 v377 t376 t372 _ _ _ (fun k_ => some k_ ≠ (.slice Ao13 t372.length co13 : Value).ownBlock) (fun _ => False) rfl rfl ?aO ?aR (fun _ _ h => h) (fun _ h => h.elim) ?aF ?aB ?aS ?aL ?_; (case aR => exact (zck (Kd.R_reads' HO375.out).2.2)); (case aB => exact zq0); (case aF => exact (fun k_ hk => Kd.fresh' (Kd.R_lt (zrk HO375.out)) k_ hk)); (case aO => exact (by (with_reducible repeat (first | apply Kd.R_alloc | apply Kd.R_drewN | apply Kd.R_drew)); exact Kd.R_mono HO378.out (fun _ hk => hk.2))); (case aS => exact (below_size zq0)); (case aL => have := LMc10.out; omega); intro v380 w12 ho hb hg hat; rw [← Ny379.out] at ho; replace HO375 := zA (Kd.R_after (ok := (fun _ => True)) (zrk HO375.out) hg hat); replace HB := zA (hb); have HO381 := zA (ho); clear HO378; clear ho hb hg hat))
 go_ret
 exact ⟨_, zq1, (by (with_reducible repeat (first | apply Kd.R_alloc | apply Kd.R_drewN | apply Kd.R_drew)); exact Kd.R_mono HO381.out (fun _ hk => trivial)), zq0⟩

/-! ### impl_PutOid: function 108 -/
mutual
def impl_PutOid.l0 : Nat → List Int → List Int → Int → Int → Option (List Int)
 | 0, _, _, _, _ => none
 | k + 1, x3, x10, x11, x12 => if x12 < x11 then (if 0 ≤ x12 then (if x12 < (x10.length : Int) then (impl_PutOid.l1 k x3 (rd x10 x12) 0 x10 x11 x12) else (none)) else (none)) else (some x3)
def impl_PutOid.l1 : Nat → List Int → Int → Int → List Int → Int → Int → Option (List Int)
 | 0, _, _, _, _, _, _ => none
 | k + 1, x3, x5, x6, x10, x11, x12 => if 0 ≤ (wrap64 (7 * x6)) then (if (shr .i64 x5 (wrap64 (7 * x6))) > 127 then (impl_PutOid.l1 k x3 x5 (wrap64 (x6 + 1)) x10 x11 x12) else (impl_PutOid.l2 k x3 x5 x6 x10 x11 x12)) else (none)
def impl_PutOid.l2 : Nat → List Int → Int → Int → List Int → Int → Int → Option (List Int)
 | 0, _, _, _, _, _, _ => none
 | k + 1, x3, x5, x6, x10, x11, x12 => if x6 > 0 then (if 0 ≤ (wrap64 (7 * x6)) then (if x3.length < 140737488355328 then (impl_PutOid.l2 k (x3 ++ [(wrap64 ((Go.bits .and .i64 (shr .i64 x5 (wrap64 (7 * x6))) 127) + 128)) % 256]) x5 (wrap64 (x6 - 1)) x10 x11 x12) else (none)) else (none)) else (if x3.length < 140737488355328 then (impl_PutOid.l0 k (x3 ++ [(Go.bits .and .i64 x5 127) % 256]) x10 x11 (wrap64 (x12 + 1))) else (none))
end
def impl_PutOid.f (k : Nat) (l0 : List Int) : Option (List Int) := (impl_OidOk.f k l0).bind fun t382 => (if t382 = true then (impl_PutOid.l0 k ([] : List Int) l0 (l0.length : Int) 0) else (some ([] : List Int)))
theorem impl_PutOid.mono_l : ∀ k, (∀ y0 y1 y2 y3, LeO (impl_PutOid.l0 k y0 y1 y2 y3) (impl_PutOid.l0 (k + 1) y0 y1 y2 y3)) ∧ (∀ y0 y1 y2 y3 y4 y5, LeO (impl_PutOid.l1 k y0 y1 y2 y3 y4 y5) (impl_PutOid.l1 (k + 1) y0 y1 y2 y3 y4 y5)) ∧ (∀ y0 y1 y2 y3 y4 y5, LeO (impl_PutOid.l2 k y0 y1 y2 y3 y4 y5) (impl_PutOid.l2 (k + 1) y0 y1 y2 y3 y4 y5))
 | 0 => ⟨fun _ _ _ _ r h => by simp [impl_PutOid.l0] at h, fun _ _ _ _ _ _ r h => by simp [impl_PutOid.l1] at h, fun _ _ _ _ _ _ r h => by simp [impl_PutOid.l2] at h⟩
 | k + 1 => by
  obtain ⟨ih0, ih1, ih2⟩ := impl_PutOid.mono_l k
  refine ⟨?_, ?_, ?_⟩
  ·intro y0 y1 y2 y3
   unfold impl_PutOid.l0
   have m0_ := @impl_OidOk.mono
   exact zR
  ·intro y0 y1 y2 y3 y4 y5
   unfold impl_PutOid.l1
   have m0_ := @impl_OidOk.mono
   exact zR
  ·intro y0 y1 y2 y3 y4 y5
   unfold impl_PutOid.l2
   have m0_ := @impl_OidOk.mono
   exact zR
theorem impl_PutOid.mono : ∀ a0 k, LeO (impl_PutOid.f k a0) (impl_PutOid.f (k + 1) a0) := by
 intro a0 k
 obtain ⟨ih0, ih1, ih2⟩ := impl_PutOid.mono_l k
 unfold impl_PutOid.f
 have m0_ := @impl_OidOk.mono
 exact zR
theorem impl_PutOid.calls (k : Nat) (A0 : Option Addr) (c0 : Nat) (l0 : List Int) (r : List Int) (w : World) (hr0 : Kd.C (Kd.int .i64) w A0 l0.length l0) (hc0 : l0.length ≤ c0) (h : impl_PutOid.f k l0 = some r) :
  Calls Try.prog 108 #[.slice A0 l0.length c0] w fun e w' => ∃ v0_ : Value, e = .returned (v0_) ∧ Kd.R (Kd.int .u8) 5 w' w.heap.size (fun _ => True) v0_ r ∧ Below w.heap.size w w' := by
 have HR0 := zA hr0
 have HC0 := zA hc0
 clear hr0 hc0
 have HB := zA (Below.refl w.heap.size w)
 unfold impl_PutOid.f at h
 have H := zA h
 clear h
 go_enter Try.func108, Try.ntmps108
 go_upto_region 0 with fail
 go_upto_region 1 with fail
 replace H := zB H; obtain ⟨t382, A4, H⟩ := H
 try dsimp only at H
 replace H := zE H; rcases H with ⟨rfl, H⟩ | ⟨rfl, H⟩
 ·go_upto_region 3 with (first | ((with_reducible refine zg123 rfl ?_); refine zl123 (some 8) #[.slice A0 l0.length c0] ?_; (with_reducible refine (impl_OidOk.calls k _ _ l0 true _ ?side1 ?side2 A4.out).mono ?_); (case side1 => exact zq18); (case side2 => exact HC0.out); rintro e w' ⟨rfl, ⟨nd, rfl⟩⟩; refine ⟨_, rfl, ?_⟩))
  (try simp only [zvs])
  go_upto_region 4 with fail
  have H' := H; clear H
  go_wp2
  go_loopg [3, 12] k (fun kq v3 v12 w' => ∃ (x3_1 : List Int) (x12_1 : Int), v12 = .int .i64 x12_1 ∧ Aside0 (impl_PutOid.l0 kq x3_1 l0 (l0.length : Int) x12_1 = some r) ∧ Aside0 (kq ≤ k) ∧ Aside0 (Kd.R (Kd.int .u8) 5 w' w.heap.size (fun _ => True) v3 x3_1) ∧ Aside0 (Below w.heap.size w w'))
  case atStart => exact ⟨(([] : List Int)), (0), zq15, H', ⟨Nat.le_refl _⟩, ⟨zq7⟩, ⟨zq0⟩⟩
  case round =>
   clear H'
   try clear c1
   try clear p2
   try clear c5
   obtain ⟨x3_1, x12_1, rfl, HA, HK1, HO_3, HB⟩ := hrel
   cases gk with
   | zero => exact absurd HA.out (by simp [impl_PutOid.l0])
   | succ k1 =>
    have H := HA
    clear HA
    simp only [impl_PutOid.l0] at H
    go_upto_region 5 with fail
    replace H := zPd H; rcases H with ⟨c9b0, H⟩ | ⟨c9b0, H⟩
    ·go_upto_region 6 with fail
     replace H := zNd H; obtain ⟨c11b0, H⟩ := H
     replace H := zNd H; obtain ⟨c12b0, H⟩ := H
     have p383 : 0 ≤ (x12_1 : Int) := of_decide_eq_true zq13
     have q383 : x12_1 < (l0.length : Int) := of_decide_eq_true zq13
     obtain ⟨ad383, e383, hx383_0⟩ := Kd.at_int HR0.out x12_1 p383 q383
     cases e383
     replace hx383_0 := zcl HB.out hx383_0
     replace p383 := eq_true p383
     replace q383 := eq_true q383
     go_upto_region 7 with fail
     have H' := H; clear H
     go_wp2
     go_loopg [6] k1 (fun kq v6 w' => ∃ (x6_2 : Int), v6 = .int .i64 x6_2 ∧ Aside0 (impl_PutOid.l1 kq x3_1 (rd l0 x12_1) x6_2 l0 (l0.length : Int) x12_1 = some r) ∧ Aside0 (kq ≤ k1) ∧ Aside0 (Kd.R (Kd.int .u8) 5 w' w.heap.size (fun _ => True) u3 x3_1) ∧ Aside0 (Below w.heap.size w w'))
     case atStart => exact ⟨(0), zq15, H', ⟨Nat.le_refl _⟩, ⟨zq8⟩, ⟨zq0⟩⟩
     case round =>
      clear H'
      try clear c1
      try clear p2
      try clear p3
      try clear q3
      try clear hx3
      try clear c5
      try clear c9
      try clear c9b0
      try clear c10
      try clear c11
      try clear c11b0
      try clear c12
      try clear c12b0
      try clear hx383_0
      try clear p2
      try clear p383
      try clear q383
      obtain ⟨x6_2, rfl, HA, HK2, HO_3, HB⟩ := hrel
      cases gk with
      | zero => exact absurd HA.out (by simp [impl_PutOid.l1])
      | succ k2 =>
       have H := HA
       clear HA
       simp only [impl_PutOid.l1] at H
       go_upto_region 8 with fail
       obtain ⟨ji15, hji15⟩ : ∃ j_ : Int, (wrap64 (7 * x6_2)) = j_ := ⟨_, rfl⟩
       replace H : Aside0 ((if 0 ≤ (ji15) then (if (shr .i64 (rd l0 x12_1) (ji15)) > 127 then (impl_PutOid.l1 k2 x3_1 (rd l0 x12_1) (wrap64 (x6_2 + 1)) l0 (l0.length : Int) x12_1) else (impl_PutOid.l2 k2 x3_1 (rd l0 x12_1) x6_2 l0 (l0.length : Int) x12_1)) else (none)) = some r) := by first | (rw [hji15] at H; exact H) | (simp only [hji15] at H ⊢; exact H)
       have hji15w : (IntKind.i64.wrap (7 * x6_2)) = ji15 := (i64_w _).trans hji15
       replace H := zN H; obtain ⟨c16, H⟩ := H
       have c16b0 := eq_true c16
       have c16b1 : decide (0 ≤ (ji15)) = true := decide_eq_true c16
       clear c16
       obtain ⟨ji17, hji17⟩ : ∃ j_ : Int, (shr .i64 (rd l0 x12_1) (ji15)) = j_ := ⟨_, rfl⟩
       replace H : Aside0 ((if (ji17) > 127 then (impl_PutOid.l1 k2 x3_1 (rd l0 x12_1) (wrap64 (x6_2 + 1)) l0 (l0.length : Int) x12_1) else (impl_PutOid.l2 k2 x3_1 (rd l0 x12_1) x6_2 l0 (l0.length : Int) x12_1)) = some r) := by first | (rw [hji17] at H; exact H) | (simp only [hji17] at H ⊢; exact H)
       have hji17_ : ((rd l0 x12_1) / 2 ^ min (ji15).toNat 64) = ji17 := hji17
       have hji17z : (ji15) ≤ 64 → ((rd l0 x12_1) / 2 ^ (ji15).toNat) = ji17 := shr_small hji17
       replace H := zPd H; rcases H with ⟨c18b0, H⟩ | ⟨c18b0, H⟩
       ·go_upto_region 9 with fail
        have H' := H; clear H
        go_wp2
        go_roundg k2
        case measure => have := HK1.out; have := HK2.out; omega
        case rel => exact ⟨(wrap64 (x6_2 + 1)), zq15, H', ⟨(by have := HK1.out; have := HK2.out; omega)⟩, ⟨zq8⟩, ⟨zq0⟩⟩
       have H' := H; clear H
       go_wp2
       go_loopg [3, 6] k2 (fun kq v3 v6 w' => ∃ (x3_3 : List Int) (x6_3 : Int), v6 = .int .i64 x6_3 ∧ Aside0 (impl_PutOid.l2 kq x3_3 (rd l0 x12_1) x6_3 l0 (l0.length : Int) x12_1 = some r) ∧ Aside0 (kq ≤ k2) ∧ Aside0 (Kd.R (Kd.int .u8) 5 w' w.heap.size (fun _ => True) v3 x3_3) ∧ Aside0 (Below w.heap.size w w'))
       case atStart => exact ⟨(x3_1), (x6_2), zq15, H', ⟨Nat.le_refl _⟩, ⟨zq8⟩, ⟨zq0⟩⟩
       case round =>
        clear H'
        try clear c1
        try clear p2
        try clear p3
        try clear q3
        try clear hx3
        try clear c5
        try clear p6
        try clear c9
        try clear c9b0
        try clear c10
        try clear c11
        try clear c11b0
        try clear c12
        try clear c12b0
        try clear c16
        try clear c16b0
        try clear c16b1
        try clear c18
        try clear c18b0
        try clear hx383_0
        try clear p2
        try clear p3
        try clear p383
        try clear q3
        try clear q383
        obtain ⟨x3_3, x6_3, rfl, HA, HK3, HO_3, HB⟩ := hrel
        cases gk with
        | zero => exact absurd HA.out (by simp [impl_PutOid.l2])
        | succ k3 =>
         have H := HA
         clear HA
         simp only [impl_PutOid.l2] at H
         go_upto_region 10 with fail
         replace H := zPd H; rcases H with ⟨c21b0, H⟩ | ⟨c21b0, H⟩
         ·go_upto_region 12 with fail
          obtain ⟨ji23, hji23⟩ : ∃ j_ : Int, (wrap64 (7 * x6_3)) = j_ := ⟨_, rfl⟩
          replace H : Aside0 ((if 0 ≤ (ji23) then (if x3_3.length < 140737488355328 then (impl_PutOid.l2 k3 (x3_3 ++ [(wrap64 ((Go.bits .and .i64 (shr .i64 (rd l0 x12_1) (ji23)) 127) + 128)) % 256]) (rd l0 x12_1) (wrap64 (x6_3 - 1)) l0 (l0.length : Int) x12_1) else (none)) else (none)) = some r) := by first | (rw [hji23] at H; exact H) | (simp only [hji23] at H ⊢; exact H)
          have hji23w : (IntKind.i64.wrap (7 * x6_3)) = ji23 := (i64_w _).trans hji23
          replace H := zN H; obtain ⟨c24, H⟩ := H
          have c24b0 := eq_true c24
          have c24b1 : decide (0 ≤ (ji23)) = true := decide_eq_true c24
          clear c24
          obtain ⟨ji25, hji25⟩ : ∃ j_ : Int, (shr .i64 (rd l0 x12_1) (ji23)) = j_ := ⟨_, rfl⟩
          replace H : Aside0 ((if x3_3.length < 140737488355328 then (impl_PutOid.l2 k3 (x3_3 ++ [(wrap64 ((Go.bits .and .i64 (ji25) 127) + 128)) % 256]) (rd l0 x12_1) (wrap64 (x6_3 - 1)) l0 (l0.length : Int) x12_1) else (none)) = some r) := by first | (rw [hji25] at H; exact H) | (simp only [hji25] at H ⊢; exact H)
          have hji25_ : ((rd l0 x12_1) / 2 ^ min (ji23).toNat 64) = ji25 := hji25
          have hji25z : (ji23) ≤ 64 → ((rd l0 x12_1) / 2 ^ (ji23).toNat) = ji25 := shr_small hji25
          replace H := zN H; obtain ⟨c26, H⟩ := H
          have LMc26 := zA c26
          clear c26
          obtain ⟨y384, hy384⟩ : ∃ y_ : List Int, y_ = (x3_3 ++ [(wrap64 ((Go.bits .and .i64 (ji25) 127) + 128)) % 256]) := ⟨_, rfl⟩
          rw [← hy384] at H
          have Ny384 := zA hy384
          clear hy384
          go_upto_region 11 with (first | ((with_reducible refine gate_builtin (b := .append) (xs := #[.tmp 27, .tmp 35]) rfl ?_); at_builtin; refine Kd.R_append (Kd.int .u8) (w0 := w) w.heap.size rfl (.tmp 27) (.tmp 35) 22 5 (.int .u8 0) 1 rfl Try.underlying22 info5 rfl zq52 zq183 u3 x3_3 ((wrap64 ((Go.bits .and .i64 (ji25) 127) + 128)) % 256) [.int .u8 ((wrap64 ((Go.bits .and .i64 (ji25) 127) + 128)) % 256)] (fun _ => True) (fun _ => False) rfl rfl ?aP (fun _ hk => hk.elim) ?aF ?aO ?aB ?aS ?aL ?_; (case aP => exact rfl); (case aB => exact zq0); (case aF => exact (fun _ _ => trivial)); (case aO => exact zq8); (case aS => exact (below_size zq0)); (case aL => have := LMc26.out; omega); intro v385 w28 ho hb hg hat; rw [← Ny384.out] at ho; replace HB := zA (hb); have HO386 := zA (ho); clear HO_3; clear ho hb hg hat))
          (try simp only [zvs])
          (try (rw [drewN_self w28]; generalize hq_ : World.drewN w28 _ = w28; replace HO386 := zA (Kd.R_at hq_ HO386.out); replace HB := zA (below_at hq_ HB.out); clear hq_))
          have H' := H; clear H
          go_wp2
          go_roundg k3
          case measure => have := HK1.out; have := HK2.out; have := HK3.out; omega
          case rel => exact ⟨(y384), (wrap64 (x6_3 - 1)), zq15, H', ⟨(by have := HK1.out; have := HK2.out; have := HK3.out; omega)⟩, ⟨(zrk HO386.out)⟩, ⟨zq0⟩⟩
         go_upto_region 13 with fail
         replace H := zN H; obtain ⟨c30, H⟩ := H
         have LMc30 := zA c30
         clear c30
         obtain ⟨y387, hy387⟩ : ∃ y_ : List Int, y_ = (x3_3 ++ [(Go.bits .and .i64 (rd l0 x12_1) 127) % 256]) := ⟨_, rfl⟩
         rw [← hy387] at H
         have Ny387 := zA hy387
         clear hy387
         go_upto_region 14 with (first | ((with_reducible refine gate_builtin (b := .append) (xs := #[.tmp 37, .tmp 41]) rfl ?_); at_builtin; refine Kd.R_append (Kd.int .u8) (w0 := w) w.heap.size rfl (.tmp 37) (.tmp 41) 22 5 (.int .u8 0) 1 rfl Try.underlying22 info5 rfl zq52 zq183 u3 x3_3 ((Go.bits .and .i64 (rd l0 x12_1) 127) % 256) [.int .u8 ((Go.bits .and .i64 (rd l0 x12_1) 127) % 256)] (fun _ => True) (fun _ => False) rfl rfl ?aP (fun _ hk => hk.elim) ?aF ?aO ?aB ?aS ?aL ?_; (case aP => exact rfl); (case aB => exact zq0); (case aF => exact (fun _ _ => trivial)); (case aO => exact zq8); (case aS => exact (below_size zq0)); (case aL => have := LMc30.out; omega); intro v388 w32 ho hb hg hat; rw [← Ny387.out] at ho; replace HB := zA (hb); have HO389 := zA (ho); clear HO_3; clear ho hb hg hat))
         (try simp only [zvs])
         (try (rw [drewN_self w32]; generalize hq_ : World.drewN w32 _ = w32; replace HO389 := zA (Kd.R_at hq_ HO389.out); replace HB := zA (below_at hq_ HB.out); clear hq_))
         have H' := H; clear H
         go_wp2
         go_roundg k3
         case measure => have := HK1.out; have := HK2.out; have := HK3.out; omega
         case rel => exact ⟨(y387), (wrap64 (x12_1 + 1)), zq15, H', ⟨(by have := HK1.out; have := HK2.out; have := HK3.out; omega)⟩, ⟨(zrk HO389.out)⟩, ⟨zq0⟩⟩
    go_upto_region 15 with fail
    obtain rfl := zi H
    go_wp2
    go_ret
    exact ⟨_, zq1, zq8, zq0⟩
 go_upto_region 2 with (first | ((with_reducible refine zg123 rfl ?_); refine zl123 (some 8) #[.slice A0 l0.length c0] ?_; (with_reducible refine (impl_OidOk.calls k _ _ l0 false _ ?side1 ?side2 A4.out).mono ?_); (case side1 => exact zq18); (case side2 => exact HC0.out); rintro e w' ⟨rfl, ⟨nd, rfl⟩⟩; refine ⟨_, rfl, ?_⟩))
 (try simp only [zvs])
 obtain rfl := zi H
 go_wp2
 go_ret
 exact ⟨_, zq1, zq7, zq0⟩

end Go.Proofs.Ytkcgghgkmgbphaa.PFnMsgs
