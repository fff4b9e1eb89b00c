-- WRITTEN BY a turned copy of the kit's printer (wip/patch_print.py), for this claim
import Derived.Test.YtkcgghgkmgbphaaPFnMsgsx0
import Derived.Test.YtkcgghgkmgbphaaPFnMsgsx9
import Derived.Test.YtkcgghgkmgbphaaPFnMsgsx13
import Derived.Test.YtkcgghgkmgbphaaPFnMsgsx20
namespace Go.Proofs.Ytkcgghgkmgbphaa.PFnMsgs
open Go.RowKit Go.Proofs.YtkcgghgkmgbphaaW.PrintWords Go.Proofs.YtkcgghgkmgbphaaW.PrintLast Go.Proofs.YtkcgghgkmgbphaaW.PrintMore
attribute [local go_sem] max2_int min2_int max_two min_two max_three min_three max_four min_four   -- for this text's walks alone
set_option linter.unusedVariables false
set_option linter.unusedSimpArgs false
set_option maxHeartbeats 8000000
set_option maxRecDepth 100000

/-- A state of type 127 at block g of W; what its slices lead to came in by w0. -/
def IsS127 (w0 W : World) (g : Nat) (X0 : Option Addr) (Y0 : Nat) (f0 : List Int) (f1 : Int) (f2 : Bool) : Prop := ∃ A0 c0, W.heap[g]? = some (.cells #[.slice A0 f0.length c0, .int .i64 f1, .bool f2] 127 (0, 0)) ∧ (w0.heap.size ≤ g ∧ A0 = X0 ∧ c0 = Y0) ∧ (Kd.C (Kd.int .u8) w0 A0 f0.length f0 ∧ f0.length ≤ c0)
theorem IsS127.grown {w0 W : World} {g : Nat} {X0 : Option Addr} {Y0 : Nat} {f0 : List Int} {f1 : Int} {f2 : Bool} {W1 : World} {row : Option Nat} (h : IsS127 w0 W g X0 Y0 f0 f1 f2) (hw : W.grownBy W1 row) (hne : some g ≠ row) : IsS127 w0 W1 g X0 Y0 f0 f1 f2 := by
 obtain ⟨A0, c0, hb, hg, hr0⟩ := h
 exact ⟨A0, c0, blk_grown hb hw hne, hg, hr0⟩
theorem IsS127.own_neN {w0 W : World} {g : Nat} {X0 : Option Addr} {Y0 : Nat} {f0 : List Int} {f1 : Int} {f2 : Bool} {α : Type} {d : Kd α} {e : Nat} {base : Nat} {ok : Nat → Prop} {v : Value} {xs : List α} (h : IsS127 w0 W g X0 Y0 f0 f1 f2) (ho : Kd.N d e W base ok v xs) (ht : e ≠ 127) : some g ≠ v.ownBlock := by
 obtain ⟨A0, c0, hb, hg, hr0⟩ := h
 exact Kd.N_ne ho hb ht
theorem IsS127.fresh {w0 W : World} {g : Nat} {X0 : Option Addr} {Y0 : Nat} {f0 : List Int} {f1 : Int} {f2 : Bool} (h : IsS127 w0 W g X0 Y0 f0 f1 f2) : ∀ k, W.heap.size ≤ k → k ≠ g := by
 obtain ⟨A0, c0, hb, hg, hr0⟩ := h
 exact Kd.freshB hb
theorem IsS127.kept {w0 W : World} {g : Nat} {X0 : Option Addr} {Y0 : Nat} {f0 : List Int} {f1 : Int} {f2 : Bool} {W1 : World} {S : Nat → Prop} (h : IsS127 w0 W g X0 Y0 f0 f1 f2) (hk : Kept W W1 S) (hne : ¬ S g) : IsS127 w0 W1 g X0 Y0 f0 f1 f2 := by
 obtain ⟨A0, c0, hb, hg, hr0⟩ := h
 exact ⟨A0, c0, blk_kept hb hk hne, hg, hr0⟩
theorem IsS127.below {w0 W : World} {g : Nat} {X0 : Option Addr} {Y0 : Nat} {f0 : List Int} {f1 : Int} {f2 : Bool} {W1 : World} (h : IsS127 w0 W g X0 Y0 f0 f1 f2) (hw : Below W.heap.size W W1) : IsS127 w0 W1 g X0 Y0 f0 f1 f2 := h.grown (grown_of_below hw none) zq219
theorem IsS127.alloc {w0 W : World} {g : Nat} {X0 : Option Addr} {Y0 : Nat} {f0 : List Int} {f1 : Int} {f2 : Bool} (h : IsS127 w0 W g X0 Y0 f0 f1 f2) (o : Obj) : IsS127 w0 (W.alloc o) g X0 Y0 f0 f1 f2 := h.below (below_alloc (Below.refl _ _) o)
theorem IsS127.drewN {w0 W : World} {g : Nat} {X0 : Option Addr} {Y0 : Nat} {f0 : List Int} {f1 : Int} {f2 : Bool} (h : IsS127 w0 W g X0 Y0 f0 f1 f2) (m : Nat) : IsS127 w0 (W.drewN m) g X0 Y0 f0 f1 f2 := h
theorem IsS127.drew {w0 W : World} {g : Nat} {X0 : Option Addr} {Y0 : Nat} {f0 : List Int} {f1 : Int} {f2 : Bool} (h : IsS127 w0 W g X0 Y0 f0 f1 f2) : IsS127 w0 W.drew g X0 Y0 f0 f1 f2 := h
theorem IsS127.at_ {w0 W : World} {g : Nat} {X0 : Option Addr} {Y0 : Nat} {f0 : List Int} {f1 : Int} {f2 : Bool} {w' : World} {m : Nat} (hq : W.drewN m = w') (h : IsS127 w0 W g X0 Y0 f0 f1 f2) : IsS127 w0 w' g X0 Y0 f0 f1 f2 := by subst hq; exact IsS127.drewN h m
theorem IsS127.apart {w0 W : World} {g : Nat} {X0 : Option Addr} {Y0 : Nat} {f0 : List Int} {f1 : Int} {f2 : Bool} {α : Type} {d : Kd α} {e : Nat} {base : Nat} {ok : Nat → Prop} {v : Value} {xs : List α} (h : IsS127 w0 W g X0 Y0 f0 f1 f2) (ho : d.R e W base ok v xs) (ht : ∀ q, q ∈ e :: d.E → q ≠ 127) : d.R e W base (fun k => ok k ∧ k ≠ g) v xs := by
 obtain ⟨A0, c0, hb, hg, hr0⟩ := h
 exact Kd.R_types ho hb ht
theorem IsS127.own_ne {w0 W : World} {g : Nat} {X0 : Option Addr} {Y0 : Nat} {f0 : List Int} {f1 : Int} {f2 : Bool} {α : Type} {d : Kd α} {e : Nat} {base : Nat} {ok : Nat → Prop} {v : Value} {xs : List α} (h : IsS127 w0 W g X0 Y0 f0 f1 f2) (ho : d.R e W base ok v xs) (ht : e ≠ 127) : some g ≠ v.ownBlock := by
 obtain ⟨A0, c0, hb, hg, hr0⟩ := h
 exact Kd.R_ne ho hb ht
theorem IsS127.apartQ {w0 W : World} {g : Nat} {X0 : Option Addr} {Y0 : Nat} {f0 : List Int} {f1 : Int} {f2 : Bool} {α : Type} {d : Kd α} {e : Nat} {base : Nat} {ok : Nat → Prop} {v : Value} {xs : List α} (h : IsS127 w0 W g X0 Y0 f0 f1 f2) (ho : d.Q e W base ok v xs) (ht : ∀ q, q ∈ e :: d.E → q ≠ 127) : d.Q e W base (fun k => ok k ∧ k ≠ g) v xs := by
 obtain ⟨A0, c0, hb, hg, hr0⟩ := h
 exact Kd.Q_types ho hb ht
theorem IsS127.own_neQ {w0 W : World} {g : Nat} {X0 : Option Addr} {Y0 : Nat} {f0 : List Int} {f1 : Int} {f2 : Bool} {α : Type} {d : Kd α} {e : Nat} {base : Nat} {ok : Nat → Prop} {v : Value} {xs : List α} (h : IsS127 w0 W g X0 Y0 f0 f1 f2) (ho : d.Q e W base ok v xs) (ht : e ≠ 127) : some g ≠ v.ownBlock := by
 obtain ⟨A0, c0, hb, hg, hr0⟩ := h
 exact Kd.Q_ne ho hb ht
theorem IsS127.apartS {w0 W : World} {g : Nat} {X0 : Option Addr} {Y0 : Nat} {f0 : List Int} {f1 : Int} {f2 : Bool} {α : Type} {d : Kd α} {e : Nat} {base : Nat} {ok : Nat → Prop} {v : Value} {xs : List α} (h : IsS127 w0 W g X0 Y0 f0 f1 f2) (ho : d.S e W base ok v xs) (ht : ∀ q, q ∈ e :: d.E → q ≠ 127) : d.S e W base (fun k => ok k ∧ k ≠ g) v xs := by
 obtain ⟨A0, c0, hb, hg, hr0⟩ := h
 exact Kd.S_types ho hb ht
theorem IsS127.own_neS {w0 W : World} {g : Nat} {X0 : Option Addr} {Y0 : Nat} {f0 : List Int} {f1 : Int} {f2 : Bool} {α : Type} {d : Kd α} {e : Nat} {base : Nat} {ok : Nat → Prop} {v : Value} {xs : List α} (h : IsS127 w0 W g X0 Y0 f0 f1 f2) (ho : d.S e W base ok v xs) (ht : e ≠ 127) : some g ≠ v.ownBlock := by
 obtain ⟨A0, c0, hb, hg, hr0⟩ := h
 exact Kd.S_ne ho hb ht
theorem IsS127.lt {w0 W : World} {g : Nat} {X0 : Option Addr} {Y0 : Nat} {f0 : List Int} {f1 : Int} {f2 : Bool} (h : IsS127 w0 W g X0 Y0 f0 f1 f2) : g < W.heap.size := by
 obtain ⟨A0, c0, hb, hg, hr0⟩ := h
 exact blk_lt hb
theorem IsS127.ge {w0 W : World} {g : Nat} {X0 : Option Addr} {Y0 : Nat} {f0 : List Int} {f1 : Int} {f2 : Bool} (h : IsS127 w0 W g X0 Y0 f0 f1 f2) : w0.heap.size ≤ g := by
 obtain ⟨A0, c0, hb, hg, hr0⟩ := h
 exact hg.1
theorem IsS127.ne_blk {w0 W : World} {g : Nat} {X0 : Option Addr} {Y0 : Nat} {f0 : List Int} {f1 : Int} {f2 : Bool} {a : Nat} {cs : Array Value} {t : TypeId} {fr : Nat × Nat} (h : IsS127 w0 W g X0 Y0 f0 f1 f2) (hb2 : W.heap[a]? = some (.cells cs t fr)) (ht : t ≠ 127) : g ≠ a := by
 obtain ⟨A0, c0, hb, hg, hr0⟩ := h
 rintro rfl
 rw [hb] at hb2
 injection hb2 with hb2
 injection hb2 with _ ht2
 exact ht ht2.symm
theorem IsS127.far {w0 W : World} {g : Nat} {X0 : Option Addr} {Y0 : Nat} {f0 : List Int} {f1 : Int} {f2 : Bool} {p : Addr} (h : IsS127 w0 W g X0 Y0 f0 f1 f2) (hne : g ≠ p.block) (u : Value) : IsS127 w0 (W.setCell p u) g X0 Y0 f0 f1 f2 := by
 obtain ⟨A0, c0, hb, hg, hr0⟩ := h
 exact ⟨A0, c0, blk_far hb hne u, hg, hr0⟩
theorem cellS127_0 {W : World} {g : Nat} {A0 : Option Addr} {c0 : Nat} {f0 : List Int} {f1 : Int} {f2 : Bool} (h : W.heap[g]? = some (.cells #[.slice A0 f0.length c0, .int .i64 f1, .bool f2] 127 (0, 0))) : W.cell? ⟨g, 0, none⟩ = some (.slice A0 f0.length c0) := (blk_cell h 0).trans rfl
theorem cellS127_1 {W : World} {g : Nat} {A0 : Option Addr} {c0 : Nat} {f0 : List Int} {f1 : Int} {f2 : Bool} (h : W.heap[g]? = some (.cells #[.slice A0 f0.length c0, .int .i64 f1, .bool f2] 127 (0, 0))) : W.cell? ⟨g, 1, none⟩ = some (.int .i64 f1) := (blk_cell h 1).trans rfl
theorem IsS127.set_1 {w0 W : World} {g : Nat} {X0 : Option Addr} {Y0 : Nat} {f0 : List Int} {f1 : Int} {f2 : Bool} (h : IsS127 w0 W g X0 Y0 f0 f1 f2) (x : Int) : IsS127 w0 (W.setCell ⟨g, 1, none⟩ (.int .i64 x)) g X0 Y0 f0 x f2 := by
 obtain ⟨A0, c0, hb, hg, hr0⟩ := h
 exact ⟨A0, c0, (by simpa using blk_set hb 1 (.int .i64 x)), hg, hr0⟩
theorem cellS127_2 {W : World} {g : Nat} {A0 : Option Addr} {c0 : Nat} {f0 : List Int} {f1 : Int} {f2 : Bool} (h : W.heap[g]? = some (.cells #[.slice A0 f0.length c0, .int .i64 f1, .bool f2] 127 (0, 0))) : W.cell? ⟨g, 2, none⟩ = some (.bool f2) := (blk_cell h 2).trans rfl
theorem IsS127.set_2 {w0 W : World} {g : Nat} {X0 : Option Addr} {Y0 : Nat} {f0 : List Int} {f1 : Int} {f2 : Bool} (h : IsS127 w0 W g X0 Y0 f0 f1 f2) (x : Bool) : IsS127 w0 (W.setCell ⟨g, 2, none⟩ (.bool x)) g X0 Y0 f0 f1 x := by
 obtain ⟨A0, c0, hb, hg, hr0⟩ := h
 exact ⟨A0, c0, (by simpa using blk_set hb 2 (.bool x)), hg, hr0⟩

/-! ### impl_parts_part: function 114 -/
def impl_parts_part.f (s0_0 : List Int) (s0_1 : Int) (s0_2 : Bool) (a1 : Int) : Option (List Int × Int × Bool) := (impl_GetTlv.f s0_0 s0_1).bind fun bt743 => (if s0_2 = true then (some (([] : List Int), s0_1, true)) else (if bt743.2.2.2 = true then (if bt743.1 = a1 then (some (bt743.2.1, bt743.2.2.1, s0_2)) else (some (([] : List Int), s0_1, true))) else (some (([] : List Int), s0_1, true))))
def impl_parts_part.T1 : Bool × List (List Nat × List Nat) := (true, [([], []), ([0], [0]), ([1], [1]), ([2], [2]), ([], []), ([4], [4]), ([5], [5]), ([6], [6]), ([3, 7], [3, 7]), ([8], [8]), ([9], [9]), ([9], [9]), ([9], [9]), ([9], [9]), ([10, 8, 0, 1, 2, 3, 4, 5, 6, 7, 8, 9, 10], [10]), ([11, 14, 0, 1, 2, 3, 4, 5, 6, 7, 8, 9, 10, 11, 14], [11]), ([12, 15, 0, 1, 2, 3, 4, 5, 6, 7, 8, 9, 10, 11, 12, 14, 15], [12]), ([13, 16, 0, 1, 2, 3, 4, 5, 6, 7, 8, 9, 10, 11, 12, 13, 14, 15, 16], [13])])
def impl_parts_part.B1 : List Nat := [0, 1, 3, 7, 0, 16, 48, 112, 255, 511, 1023, 1023, 1023, 1023, 2047, 20479, 57343, 131071]
theorem impl_parts_part.tab1 : rtab .any (opsOf Try.f114 1) = impl_parts_part.T1 := by kernel_rfl
theorem impl_parts_part.bits1 : waitsOk impl_parts_part.T1.2 impl_parts_part.B1 = true := by kernel_rfl
theorem impl_parts_part.calls (g : Nat) (As0_0 : Option Addr) (cs0_0 : Nat) (s0_0 : List Int) (s0_1 : Int) (s0_2 : Bool) (a1 : Int) (r1 : List Int) (r2 : Int) (r3 : Bool) (w0 w : World) (hI : IsS127 w0 w g As0_0 cs0_0 s0_0 s0_1 s0_2) (hB : Below w0.heap.size w0 w) (h : impl_parts_part.f s0_0 s0_1 s0_2 a1 = some (r1, r2, r3)) :
  Calls Try.prog 114 #[.pointer (some ⟨g, 0, none⟩), .int .i64 a1] w fun e w' => ∃ v0_ : Value, e = .returned (v0_) ∧ Kd.R (Kd.int .u8) 5 w' w.heap.size (fun _ => True) v0_ r1 ∧ IsS127 w0 w' g As0_0 cs0_0 s0_0 r2 r3 ∧ Below w0.heap.size w0 w' ∧ KeepBut w w' g none := by
 have HI0 := zA hI
 have HK := zA (KeepBut.refl w g none)
 have HL := zA hB.size
 clear hI
 have HW0 := zA hB.size
 have HB := zA hB
 clear hB
 unfold impl_parts_part.f at h
 have H := zA h
 clear h
 go_enter Try.func114, Try.ntmps114
 go_upto_region 0 with fail
 go_upto_region 1 with fail
 replace H := zB H; obtain ⟨⟨t743, t744, t745, t746⟩, A5, H⟩ := H
 try dsimp only at H
 try go_wp2
 replace HI0 := zA (IsS127.drew HI0.out)
 replace HK := zA (keep_drew HK.out)
 replace HB := zA (below_drew1 HB.out)
 obtain ⟨ASz8_0, cSz8_0, HGz8, hgz8, ⟨HSz8_0, HSKz8_0⟩⟩ := HI0.out
 have HSCz8_0 := zA HSKz8_0
 clear HSKz8_0
 have hcz8_0 := cellS127_0 HGz8
 have hcz8_1 := cellS127_1 HGz8
 have hcz8_2 := cellS127_2 HGz8
 have hfz8_1 := blk_frozen HGz8 1
 have hfz8_2 := blk_frozen HGz8 2
 clear HGz8 hgz8
 refine start_ (n := 18) (S := fun w' => w'.cell? ⟨g, 0, none⟩ = some (.slice ASz8_0 s0_0.length cSz8_0) ∧ w'.cell? ⟨g, 1, none⟩ = some (.int .i64 s0_1) ∧ w'.cell? ⟨g, 2, none⟩ = some (.bool s0_2)) (ds := []) (zv 18 0) (by kernel_rfl) rfl rfl ⟨hcz8_0, hcz8_1, hcz8_2⟩ (fun hHeld => ?_); refine with_tabW impl_parts_part.tab1 impl_parts_part.bits1 (fun HT_ HW_ => ?_)
 generalize w.drew = w7 at HI0 HK HB hHeld ⊢
 refine zyt 0 10 (zv 18 1) ?_
 refine zyt 1 11 (zv 18 3) ?_
 refine zyt 2 12 (zv 18 7) ?_
 refine zyt 4 14 (zv 18 23) ?_
 refine zyt 5 15 (zv 18 55) ?_
 refine zyt 6 16 (zv 18 119) ?_
 refine take_ (i := 3) (N := some 13) (v := ?_) (a' := ?_) (zv 18 127) rfl rfl (take_ofW HT_.out HW_.out (by kernel_rfl)) (fun _ _ _ h => h) (Or.inl ⟨zq94, ?_⟩) hHeld ?_ ?_
 rotate_left
 ·rintro w' ⟨s0, s1, s2⟩
  go_simp
  with_reducible rfl
 rotate_left
 ·simp only [zvs, i64_w, i32_w]
  rfl
 refine take_ (i := 7) (N := some 17) (v := ?_) (a' := ?_) (zv 18 255) rfl rfl (take_ofW HT_.out HW_.out (by kernel_rfl)) (fun _ _ _ h => h) (Or.inl ⟨zq94, ?_⟩) hHeld ?_ ?_
 rotate_left
 ·rintro w' ⟨s0, s1, s2⟩
  go_simp
  with_reducible rfl
 rotate_left
 ·simp only [zvs, i64_w, i32_w]
  rfl
 refine one_ (i := 8) (N := some 18) (zv 18 511) rfl rfl (one_of HT_.out (by kernel_rfl)) zq52 (fun K hK => ?_)
 refine goes_ Try.func112 (by kernel_rfl) rfl #[.slice ASz8_0 s0_0.length cSz8_0, .int .i64 s0_1] zq94 rfl rfl zq20 ?_
 with_reducible refine (impl_GetTlv.calls _ _ s0_0 s0_1 t743 t744 t745 t746 _ ?side1 ?side2 A5.out).mono ?_
 (case side1 => exact Kd.C_below HSz8_0 zq64)
 (case side2 => exact HSCz8_0.out)
 rintro e w9 ⟨v747, rfl, ho0, hb⟩
 have HS0_ := (hb.cell (World.block_lt_of_cell? _ _ (hHeld.1))).trans (hHeld.1)
 have HS1_ := (hb.cell (World.block_lt_of_cell? _ _ (hHeld.2.1))).trans (hHeld.2.1)
 have HS2_ := (hb.cell (World.block_lt_of_cell? _ _ (hHeld.2.2))).trans (hHeld.2.2)
 refine ⟨_, rfl, ?_⟩
 have HO748 := zA (Kd.R_lower ho0 (keep_size (w := w) (g := g) (row := none) zq2))
 replace HK := zA (KeepBut.trans zq2 (KeepBut.of_below hb g none) (.inl rfl))
 replace HB := zA (below_step zq64 hb)
 replace HI0 := zA (IsS127.below zq67 hb)
 (try clear hb)
 (try clear hb2)
 (try clear hk)
 (try clear hi)
 (try clear ho0)
 refine hK.out _ _ ⟨HS0_, HS1_, HS2_⟩ (fun hHeld => ?_)
 clear hK K
 refine norm_ (a' := ?_) ?_ ?_
 rotate_left
 ·show Act.put _ (some 18) _ = _
  simp only [zvs, i64_w, i32_w]
  rfl
 refine zyt 9 9 (zv 18 1023) ?_
 refine zyt 10 19 (zv 18 2047) ?_
 refine zyt 11 20 (zv 18 4095) ?_
 refine zyt 12 21 (zv 18 8191) ?_
 refine zyt 13 22 (zv 18 16383) ?_
 refine zyt 14 5 (zv 18 32767) ?_
 refine zyt 15 6 (zv 18 65535) ?_
 refine zyt 16 7 (zv 18 131071) ?_
 refine zyt 17 8 (zv 18 262143) ?_
 refine done_ (done_of HT_.out (by kernel_rfl)) ?_
 go_upto_region 2 with fail
 replace H := zE H; rcases H with ⟨rfl, H⟩ | ⟨rfl, H⟩
 ·obtain ⟨ASz12_0, cSz12_0, HGz12, hgz12, ⟨HSz12_0, HSKz12_0⟩⟩ := HI0.out
  have HSCz12_0 := zA HSKz12_0
  clear HSKz12_0
  have hcz12_0 := cellS127_0 HGz12
  have hcz12_1 := cellS127_1 HGz12
  have hcz12_2 := cellS127_2 HGz12
  have hfz12_1 := blk_frozen HGz12 1
  have hfz12_2 := blk_frozen HGz12 2
  clear HGz12 hgz12
  go_upto_region 3 with fail
  obtain ⟨ASz14_0, cSz14_0, HGz14, hgz14, ⟨HSz14_0, HSKz14_0⟩⟩ := HI0.out
  have HSCz14_0 := zA HSKz14_0
  clear HSKz14_0
  have hcz14_0 := cellS127_0 HGz14
  have hcz14_1 := cellS127_1 HGz14
  have hcz14_2 := cellS127_2 HGz14
  have hfz14_1 := blk_frozen HGz14 1
  have hfz14_2 := blk_frozen HGz14 2
  clear HGz14 hgz14
  go_upto_region 4 with fail
  obtain ⟨rfl, rfl, rfl⟩ := zt3 H
  go_wp2
  go_ret
  exact ⟨_, zq1, zq7, zq67, zq64, zq2⟩
 by_cases c15 : t746 = true
 ·subst c15
  rw [if_pos rfl] at H
  replace H := zP H; rcases H with ⟨c16, H⟩ | ⟨c16, H⟩
  ·have c16b0 : (t743 == a1) = true := beq_iff_eq.mpr c16
   have c16b1 : (t743 != a1) = false := bne_eq_false_iff_eq.mpr c16
   clear c16
   obtain ⟨ASz18_0, cSz18_0, HGz18, hgz18, ⟨HSz18_0, HSKz18_0⟩⟩ := HI0.out
   have HSCz18_0 := zA HSKz18_0
   clear HSKz18_0
   have hcz18_0 := cellS127_0 HGz18
   have hcz18_1 := cellS127_1 HGz18
   have hcz18_2 := cellS127_2 HGz18
   have hfz18_1 := blk_frozen HGz18 1
   have hfz18_2 := blk_frozen HGz18 2
   clear HGz18 hgz18
   go_upto_region 5 with fail
   obtain ⟨ASz20_0, cSz20_0, HGz20, hgz20, ⟨HSz20_0, HSKz20_0⟩⟩ := HI0.out
   have HSCz20_0 := zA HSKz20_0
   clear HSKz20_0
   have hcz20_0 := cellS127_0 HGz20
   have hcz20_1 := cellS127_1 HGz20
   have hcz20_2 := cellS127_2 HGz20
   have hfz20_1 := blk_frozen HGz20 1
   have hfz20_2 := blk_frozen HGz20 2
   clear HGz20 hgz20
   go_upto_region 6 with fail
   obtain ⟨rfl, rfl, rfl⟩ := zt3 H
   go_wp2
   go_ret
   exact ⟨_, zq1, (by (with_reducible repeat (first | apply Kd.R_alloc | apply Kd.R_drewN | apply Kd.R_drew)); exact Kd.R_mono (Kd.R_far (p := ⟨g, 1, none⟩) (IsS127.apart HI0.out HO748.out zq52) (fun _ hk => hk.2) (.int .i64 t745)) (fun _ hk => trivial)), zq67, zq64, zq2⟩
  have c16b0 : (t743 == a1) = false := beq_eq_false_iff_ne.mpr c16
  have c16b1 : (t743 != a1) = true := bne_iff_ne.mpr c16
  obtain ⟨ASz22_0, cSz22_0, HGz22, hgz22, ⟨HSz22_0, HSKz22_0⟩⟩ := HI0.out
  have HSCz22_0 := zA HSKz22_0
  clear HSKz22_0
  have hcz22_0 := cellS127_0 HGz22
  have hcz22_1 := cellS127_1 HGz22
  have hcz22_2 := cellS127_2 HGz22
  have hfz22_1 := blk_frozen HGz22 1
  have hfz22_2 := blk_frozen HGz22 2
  clear HGz22 hgz22
  go_upto_region 3 with fail
  obtain ⟨ASz24_0, cSz24_0, HGz24, hgz24, ⟨HSz24_0, HSKz24_0⟩⟩ := HI0.out
  have HSCz24_0 := zA HSKz24_0
  clear HSKz24_0
  have hcz24_0 := cellS127_0 HGz24
  have hcz24_1 := cellS127_1 HGz24
  have hcz24_2 := cellS127_2 HGz24
  have hfz24_1 := blk_frozen HGz24 1
  have hfz24_2 := blk_frozen HGz24 2
  clear HGz24 hgz24
  go_upto_region 4 with fail
  obtain ⟨rfl, rfl, rfl⟩ := zt3 H
  go_wp2
  go_ret
  exact ⟨_, zq1, zq7, zq67, zq64, zq2⟩
 ·replace c15 := Bool.eq_false_iff.mpr c15
  subst c15
  rw [if_neg zF] at H
  obtain ⟨ASz26_0, cSz26_0, HGz26, hgz26, ⟨HSz26_0, HSKz26_0⟩⟩ := HI0.out
  have HSCz26_0 := zA HSKz26_0
  clear HSKz26_0
  have hcz26_0 := cellS127_0 HGz26
  have hcz26_1 := cellS127_1 HGz26
  have hcz26_2 := cellS127_2 HGz26
  have hfz26_1 := blk_frozen HGz26 1
  have hfz26_2 := blk_frozen HGz26 2
  clear HGz26 hgz26
  go_upto_region 3 with fail
  obtain ⟨ASz28_0, cSz28_0, HGz28, hgz28, ⟨HSz28_0, HSKz28_0⟩⟩ := HI0.out
  have HSCz28_0 := zA HSKz28_0
  clear HSKz28_0
  have hcz28_0 := cellS127_0 HGz28
  have hcz28_1 := cellS127_1 HGz28
  have hcz28_2 := cellS127_2 HGz28
  have hfz28_1 := blk_frozen HGz28 1
  have hfz28_2 := blk_frozen HGz28 2
  clear HGz28 hgz28
  go_upto_region 4 with fail
  obtain ⟨rfl, rfl, rfl⟩ := zt3 H
  go_wp2
  go_ret
  exact ⟨_, zq1, zq7, zq67, zq64, zq2⟩
/-- The same of a variable in memory, told by its cells. -/
theorem impl_parts_part.callsB (g : Nat) (As0_0 : Option Addr) (cs0_0 : Nat) (s0_0 : List Int) (s0_1 : Int) (s0_2 : Bool) (a1 : Int) (r1 : List Int) (r2 : Int) (r3 : Bool) (w0 w : World) (hb : w.heap[g]? = some (.cells #[.slice As0_0 s0_0.length cs0_0, .int .i64 s0_1, .bool s0_2] 127 (0, 0))) (hC0 : Kd.C (Kd.int .u8) w As0_0 s0_0.length s0_0) (hc0 : s0_0.length ≤ cs0_0) (hl0 : ∀ k_, (Value.slice As0_0 s0_0.length cs0_0).ownBlock = some k_ → k_ < g) (hB : Below w0.heap.size w0 w) (hg : w0.heap.size ≤ g) (h : impl_parts_part.f s0_0 s0_1 s0_2 a1 = some (r1, r2, r3)) :
  Calls Try.prog 114 #[.pointer (some ⟨g, 0, none⟩), .int .i64 a1] w fun e w' => ∃ v0_ : Value, e = .returned (v0_) ∧ Kd.R (Kd.int .u8) 5 w' w.heap.size (fun _ => True) v0_ r1 ∧ w'.heap[g]? = some (.cells #[.slice As0_0 s0_0.length cs0_0, .int .i64 r2, .bool r3] 127 (0, 0)) ∧ Below w0.heap.size w0 w' ∧ KeepBut w w' g none := by
 refine (impl_parts_part.calls g As0_0 cs0_0 s0_0 s0_1 s0_2 a1 r1 r2 r3 (truncW w g) w ⟨_, _, hb, ⟨Nat.le_of_eq (truncW_size (Nat.le_of_lt (blk_lt hb))), rfl, rfl⟩, ⟨C_truncW hC0 hl0, hc0⟩⟩ (truncW_below (Nat.le_of_lt (blk_lt hb))) h).mono ?_
 rintro e w' ⟨v0_, rfl, ho0_, ⟨A0_, c0_, hb', ⟨_, rfl, rfl⟩, _⟩, hB', hk⟩
 exact ⟨v0_, rfl, ho0_, hb', truncW_done hB hg hB' hk, hk⟩

/-! ### impl_GetInt: function 170 -/
def impl_GetInt.l0 : Nat → List Int → Int → List Int → Int → Int → Option (Int × Bool)
 | 0, _, _, _, _, _ => none
 | k + 1, x0, x4, x17, x18, x19 => if x19 < x18 then (if 0 ≤ x19 then (if x19 < (x17.length : Int) then (impl_GetInt.l0 k x0 (Go.bits .or .i64 (wrap64 (x4 * 256)) (wrap64 (rd x17 x19))) x17 x18 (wrap64 (x19 + 1))) else (none)) else (none)) else ((impl_PutInt.f k x4).bind fun t753 => (if (t753.length : Int) = (x0.length : Int) then (some (x4, true)) else (some (0, false))))
def impl_GetInt.f (k : Nat) (l0 : List Int) : Option (Int × Bool) := (impl_in.f (l0.length : Int) 1 4).bind fun t749 => (if t749 = true then (if 0 < (l0.length : Int) then (if 1 ≤ (l0.length : Int) then (impl_GetInt.l0 k l0 (wrap64 (IntKind.i8.wrap (rd l0 0))) (l0.drop 1) ((l0.drop 1).length : Int) 0) else (none)) else (none)) else (some (0, false)))
theorem impl_GetInt.mono_l : ∀ k, (∀ y0 y1 y2 y3 y4, LeO (impl_GetInt.l0 k y0 y1 y2 y3 y4) (impl_GetInt.l0 (k + 1) y0 y1 y2 y3 y4))
 | 0 => fun _ _ _ _ _ r h => by simp [impl_GetInt.l0] at h
 | k + 1 => by
  have ih0 := impl_GetInt.mono_l k
  ·intro y0 y1 y2 y3 y4
   unfold impl_GetInt.l0
   have m0_ := @impl_PutInt.mono
   exact zR
theorem impl_GetInt.mono : ∀ a0 k, LeO (impl_GetInt.f k a0) (impl_GetInt.f (k + 1) a0) := by
 intro a0 k
 have ih0 := impl_GetInt.mono_l k
 unfold impl_GetInt.f
 have m0_ := @impl_PutInt.mono
 exact zR
theorem impl_GetInt.calls (k : Nat) (A0 : Option Addr) (c0 : Nat) (l0 : List Int) (r1 : Int) (r2 : Bool) (w : World) (hr0 : Kd.C (Kd.int .u8) w A0 l0.length l0) (hc0 : l0.length ≤ c0) (h : impl_GetInt.f k l0 = some (r1, r2)) :
  Calls Try.prog 170 #[.slice A0 l0.length c0] w fun e w' => e = .returned (.tuple #[.int .i64 r1, .bool r2]) ∧ Below w.heap.size w w' := by
 have HR0 := zA hr0
 have HC0 := zA hc0
 clear hr0 hc0
 have HB := zA (Below.refl w.heap.size w)
 unfold impl_GetInt.f at h
 have H := zA h
 clear h
 go_enter Try.func170, Try.ntmps170
 go_upto_region 0 with fail
 go_upto_region 1 with fail
 replace H := zB H; obtain ⟨t749, A4, H⟩ := H
 try dsimp only at H
 replace H := zE H; rcases H with ⟨rfl, H⟩ | ⟨rfl, H⟩
 ·go_upto_region 3 with (first | ((with_reducible refine zg122 rfl ?_); refine zl122 (some 9) #[.int .i64 (l0.length : Int), .int .i64 1, .int .i64 4] ?_; (with_reducible refine (impl_in.calls (l0.length : Int) 1 4 true _ A4.out).mono ?_); rintro e w' ⟨rfl, ⟨nd, rfl⟩⟩; refine ⟨_, rfl, ?_⟩))
  (try simp only [zvs])
  replace H := zN H; obtain ⟨c7, H⟩ := H
  have c7b0 : decide (0 < (l0.length : Int)) = true := decide_eq_true c7
  have c7b1 : decide (0 < l0.length) = true := decide_eq_true zq183
  clear c7
  have p750 : 0 ≤ (0 : Int) := zq183
  have q750 : 0 < (l0.length : Int) := of_decide_eq_true zq13
  obtain ⟨ad750, e750, hx750_0⟩ := Kd.at_int HR0.out 0 p750 q750
  cases e750
  have qi750 : (0 < l0.length) = True := eq_true zq183
  (try rw [show ((0 : Int)).toNat = 0 from rfl] at hx750_0)
  (try rw [Addr.add_zero'] at hx750_0)
  replace hx750_0 := zcl HB.out hx750_0
  replace p750 := eq_true p750
  replace q750 := eq_true q750
  go_upto_region 4 with fail
  replace H := zN H; obtain ⟨c9, H⟩ := H
  have c9b0 := eq_true c9
  have c9b1 : decide (1 ≤ (l0.length : Int)) = true := decide_eq_true c9
  clear c9
  have H' := H; clear H
  obtain ⟨i010, hi010, _, hsz10, _⟩ := info_parts info5
  obtain ⟨A10, hcut10, hA10, hC10⟩ := print_drop_of (P := Try.prog) (Value.int .u8) 0 22 5 .i64 Try.underlying22 hi010 hsz10 (some ad750) c0 l0 1 zq183 (of_decide_eq_true zq13) HC0.out
  have HR751 := zA (Kd.C_of_reads (h1 := fun _ => rfl) (hA10 _ (Kd.reads_of_C HR0.out)))
  have HC751 := zA hC10
  clear hA10 hC10 hi010 hsz10
  go_wp2
  go_loopg [4, 19] k (fun kq v4 v19 w' => ∃ (x4_1 : Int) (x19_1 : Int), v4 = .int .i64 x4_1 ∧ v19 = .int .i64 x19_1 ∧ Aside0 (impl_GetInt.l0 kq l0 x4_1 (l0.drop 1) ((l0.drop 1).length : Int) x19_1 = some (r1, r2)) ∧ Aside0 (kq ≤ k) ∧ Aside0 (Below w.heap.size w w'))
  case atStart => exact ⟨(wrap64 (IntKind.i8.wrap (rd l0 0))), (0), zq15, zq15, H', ⟨Nat.le_refl _⟩, ⟨zq0⟩⟩
  case round =>
   clear H'
   try clear c1
   try clear p2
   try clear c5
   try clear p6
   try clear c7
   try clear c7b0
   try clear c7b1
   try clear p7
   try clear q7
   try clear hx7
   try clear qi7
   try clear c9
   try clear c9b0
   try clear c9b1
   try clear hx750_0
   try clear p750
   try clear q750
   obtain ⟨x4_1, x19_1, rfl, rfl, HA, HK1, HB⟩ := hrel
   cases gk with
   | zero => exact absurd HA.out (by simp [impl_GetInt.l0])
   | succ k1 =>
    have H := HA
    clear HA
    simp only [impl_GetInt.l0] at H
    go_upto_region 5 with fail
    replace H := zP H; rcases H with ⟨c12, H⟩ | ⟨c12, H⟩
    ·have c12b0 : decide (x19_1 < ((l0.drop 1).length : Int)) = true := decide_eq_true c12
     (try (have c12bz := c12b0; rw [List.length_drop] at c12bz))
     clear c12
     go_upto_region 6 with fail
     replace H := zNd H; obtain ⟨c14b0, H⟩ := H
     replace H := zN H; obtain ⟨c15, H⟩ := H
     have c15b0 : decide (x19_1 < ((l0.drop 1).length : Int)) = true := decide_eq_true c15
     (try (have c15bz := c15b0; rw [List.length_drop] at c15bz))
     clear c15
     have p752 : 0 ≤ (x19_1 : Int) := of_decide_eq_true zq13
     have q752 : x19_1 < ((l0.drop 1).length : Int) := of_decide_eq_true zq13
     obtain ⟨ad752, e752, hx752_0⟩ := Kd.at_int HR751.out x19_1 p752 q752
     cases e752
     replace hx752_0 := zcl HB.out hx752_0
     replace p752 := eq_true p752
     replace q752 := eq_true q752
     (try (have qz752 := q752; rw [List.length_drop] at qz752))
     go_upto_region 7 with fail
     go_upto_region 8 with fail
     have H' := H; clear H
     go_wp2
     go_roundg k1
     case measure => have := HK1.out; omega
     case rel => exact ⟨(Go.bits .or .i64 (wrap64 (x4_1 * 256)) (wrap64 (rd (l0.drop 1) x19_1))), (wrap64 (x19_1 + 1)), zq15, zq15, H', ⟨zq182⟩, ⟨zq0⟩⟩
    have c12b0 : decide (x19_1 < ((l0.drop 1).length : Int)) = false := decide_eq_false c12
    (try (have c12bz := c12b0; rw [List.length_drop] at c12bz))
    clear c12
    go_upto_region 9 with fail
    replace H := zB H; obtain ⟨t753, A19, H⟩ := H
    try dsimp only at H
    replace H := zP H; rcases H with ⟨c20, H⟩ | ⟨c20, H⟩
    ·have c20b0 : ((t753.length : Int) == (l0.length : Int)) = true := beq_iff_eq.mpr c20
     have c20b1 : ((t753.length : Int) != (l0.length : Int)) = false := bne_eq_false_iff_eq.mpr c20
     have c20b2 : (t753.length == l0.length) = true := by first | simpa using c20 | (simp at c20 ⊢; omega)
     clear c20
     go_upto_region 11 with (first | ((with_reducible refine zg156 rfl ?_); refine zl156 (some 30) #[.int .i64 x4_1] ?_; (with_reducible refine (impl_PutInt.calls k1 x4_1 t753 _ A19.out).mono ?_); rintro e w22 ⟨v754, rfl, ho0, hb⟩; refine ⟨_, rfl, ?_⟩; have HO755 := zA (Kd.R_lower ho0 (below_size zq0)); replace HB := zA (below_step zq0 hb); clear hb ho0; obtain ⟨Ao23, co23, eo23⟩ := Kd.R_slice HO755.out; subst eo23))
     (try simp only [zvs])
     obtain ⟨rfl, rfl⟩ := zt2 H
     go_wp2
     go_ret2
     exact ⟨zq1, zq0⟩
    have c20b0 : ((t753.length : Int) == (l0.length : Int)) = false := beq_eq_false_iff_ne.mpr c20
    have c20b1 : ((t753.length : Int) != (l0.length : Int)) = true := bne_iff_ne.mpr c20
    have c20b2 : (t753.length == l0.length) = false := by first | simpa using c20 | (simp at c20 ⊢; omega)
    go_upto_region 10 with (first | ((with_reducible refine zg156 rfl ?_); refine zl156 (some 30) #[.int .i64 x4_1] ?_; (with_reducible refine (impl_PutInt.calls k1 x4_1 t753 _ A19.out).mono ?_); rintro e w25 ⟨v754, rfl, ho0, hb⟩; refine ⟨_, rfl, ?_⟩; have HO755 := zA (Kd.R_lower ho0 (below_size zq0)); replace HB := zA (below_step zq0 hb); clear hb ho0; obtain ⟨Ao26, co26, eo26⟩ := Kd.R_slice HO755.out; subst eo26))
    (try simp only [zvs])
    obtain ⟨rfl, rfl⟩ := zt2 H
    go_wp2
    go_ret2
    exact ⟨zq1, zq0⟩
 go_upto_region 2 with (first | ((with_reducible refine zg122 rfl ?_); refine zl122 (some 9) #[.int .i64 (l0.length : Int), .int .i64 1, .int .i64 4] ?_; (with_reducible refine (impl_in.calls (l0.length : Int) 1 4 false _ A4.out).mono ?_); rintro e w' ⟨rfl, ⟨nd, rfl⟩⟩; refine ⟨_, rfl, ?_⟩))
 (try simp only [zvs])
 obtain ⟨rfl, rfl⟩ := zt2 H
 go_wp2
 go_ret2
 exact ⟨zq1, zq0⟩

/-! ### impl_parts_num: function 113 -/
def impl_parts_num.f (k : Nat) (s0_0 : List Int) (s0_1 : Int) (s0_2 : Bool) (a1 : Int) : Option (Int × Int × Bool) := (impl_parts_part.f s0_0 s0_1 s0_2 a1).bind fun bt756 => ((impl_GetInt.f k bt756.1).bind fun bt761 => (if bt756.2.2 = true then (some (bt761.1, bt756.2.1, true)) else (some (bt761.1, bt756.2.1, !bt761.2))))
theorem impl_parts_num.mono : ∀ a0 a1 a2 a3 k, LeO (impl_parts_num.f k a0 a1 a2 a3) (impl_parts_num.f (k + 1) a0 a1 a2 a3) := by
 intro a0 a1 a2 a3 k
 unfold impl_parts_num.f
 have m0_ := @impl_GetInt.mono
 exact zR
theorem impl_parts_num.calls (k : Nat) (g : Nat) (As0_0 : Option Addr) (cs0_0 : Nat) (s0_0 : List Int) (s0_1 : Int) (s0_2 : Bool) (a1 : Int) (r1 : Int) (r2 : Int) (r3 : Bool) (w0 w : World) (hI : IsS127 w0 w g As0_0 cs0_0 s0_0 s0_1 s0_2) (hB : Below w0.heap.size w0 w) (h : impl_parts_num.f k s0_0 s0_1 s0_2 a1 = some (r1, r2, r3)) :
  Calls Try.prog 113 #[.pointer (some ⟨g, 0, none⟩), .int .i64 a1] w fun e w' => e = .returned (.int .i64 r1) ∧ IsS127 w0 w' g As0_0 cs0_0 s0_0 r2 r3 ∧ Below w0.heap.size w0 w' ∧ KeepBut w w' g none := by
 have HI0 := zA hI
 have HK := zA (KeepBut.refl w g none)
 have HL := zA hB.size
 clear hI
 have HW0 := zA hB.size
 have HB := zA hB
 clear hB
 unfold impl_parts_num.f at h
 have H := zA h
 clear h
 go_enter Try.func113, Try.ntmps113
 go_upto_region 0 with fail
 go_upto_region 1 with fail
 replace H := zB H; obtain ⟨⟨t756, t759, t760⟩, A5, H⟩ := H
 try dsimp only at H
 replace H := zB H; obtain ⟨⟨t761, t762⟩, A6, H⟩ := H
 try dsimp only at H
 go_upto_region 2 with (first | ((with_reducible refine zg114 rfl ?_); refine zl114 (some 10) #[.pointer (some ⟨g, 0, none⟩), .int .i64 a1] ?_; (with_reducible refine (impl_parts_part.calls g As0_0 cs0_0 s0_0 s0_1 s0_2 a1 t756 t759 t760 w0 _ ?side1 ?side2 A5.out).mono ?_); (case side1 => exact zq67); (case side2 => exact zq64); rintro e w8 ⟨v757, rfl, ho0, hi, hb, hk⟩; refine ⟨_, rfl, ?_⟩; have HO758 := zA (Kd.R_lower ho0 (keep_size (w := w) (g := g) (row := none) zq2)); replace HK := zA (KeepBut.trans zq2 hk (.inl rfl)); replace HB := zA (hb); replace HI0 := zA (hi); clear hb hk hi ho0; obtain ⟨Ao9, co9, eo9⟩ := Kd.R_slice HO758.out; subst eo9) | ((with_reducible refine zg170 rfl ?_); refine zl170 (some 11) #[.slice Ao9 t756.length co9] ?_; (with_reducible refine (impl_GetInt.calls k _ _ t756 t761 t762 _ ?side1 ?side2 A6.out).mono ?_); (case side1 => exact (zck (Kd.R_reads' HO758.out).2.2)); (case side2 => exact (Kd.R_reads' HO758.out).2.1); rintro e w10 ⟨rfl, hb⟩; refine ⟨_, rfl, ?_⟩; replace HO758 := zA (Kd.R_below (zrk HO758.out) hb); replace HK := zA (KeepBut.trans zq2 (KeepBut.of_below hb g none) (.inl rfl)); replace HB := zA (below_step zq64 hb); replace HI0 := zA (IsS127.below zq67 hb); clear hb))
 (try simp only [zvs])
 replace H := zE H; rcases H with ⟨rfl, H⟩ | ⟨rfl, H⟩
 ·obtain ⟨ASz13_0, cSz13_0, HGz13, hgz13, ⟨HSz13_0, HSKz13_0⟩⟩ := HI0.out
  have HSCz13_0 := zA HSKz13_0
  clear HSKz13_0
  have hcz13_0 := cellS127_0 HGz13
  have hcz13_1 := cellS127_1 HGz13
  have hcz13_2 := cellS127_2 HGz13
  have hfz13_1 := blk_frozen HGz13 1
  have hfz13_2 := blk_frozen HGz13 2
  clear HGz13 hgz13
  go_upto_region 3 with fail
  obtain ⟨rfl, rfl, rfl⟩ := zt3 H
  go_wp2
  go_ret
  exact ⟨zq1, zq67, zq64, zq2⟩
 obtain ⟨ASz15_0, cSz15_0, HGz15, hgz15, ⟨HSz15_0, HSKz15_0⟩⟩ := HI0.out
 have HSCz15_0 := zA HSKz15_0
 clear HSKz15_0
 have hcz15_0 := cellS127_0 HGz15
 have hcz15_1 := cellS127_1 HGz15
 have hcz15_2 := cellS127_2 HGz15
 have hfz15_1 := blk_frozen HGz15 1
 have hfz15_2 := blk_frozen HGz15 2
 clear HGz15 hgz15
 go_upto_region 3 with fail
 obtain ⟨rfl, rfl, rfl⟩ := zt3 H
 go_wp2
 go_ret
 exact ⟨zq1, zq67, zq64, zq2⟩
/-- The same of a variable in memory, told by its cells. -/
theorem impl_parts_num.callsB (k : Nat) (g : Nat) (As0_0 : Option Addr) (cs0_0 : Nat) (s0_0 : List Int) (s0_1 : Int) (s0_2 : Bool) (a1 : Int) (r1 : Int) (r2 : Int) (r3 : Bool) (w0 w : World) (hb : w.heap[g]? = some (.cells #[.slice As0_0 s0_0.length cs0_0, .int .i64 s0_1, .bool s0_2] 127 (0, 0))) (hC0 : Kd.C (Kd.int .u8) w As0_0 s0_0.length s0_0) (hc0 : s0_0.length ≤ cs0_0) (hl0 : ∀ k_, (Value.slice As0_0 s0_0.length cs0_0).ownBlock = some k_ → k_ < g) (hB : Below w0.heap.size w0 w) (hg : w0.heap.size ≤ g) (h : impl_parts_num.f k s0_0 s0_1 s0_2 a1 = some (r1, r2, r3)) :
  Calls Try.prog 113 #[.pointer (some ⟨g, 0, none⟩), .int .i64 a1] w fun e w' => e = .returned (.int .i64 r1) ∧ w'.heap[g]? = some (.cells #[.slice As0_0 s0_0.length cs0_0, .int .i64 r2, .bool r3] 127 (0, 0)) ∧ Below w0.heap.size w0 w' ∧ KeepBut w w' g none := by
 refine (impl_parts_num.calls k g As0_0 cs0_0 s0_0 s0_1 s0_2 a1 r1 r2 r3 (truncW w g) w ⟨_, _, hb, ⟨Nat.le_of_eq (truncW_size (Nat.le_of_lt (blk_lt hb))), rfl, rfl⟩, ⟨C_truncW hC0 hl0, hc0⟩⟩ (truncW_below (Nat.le_of_lt (blk_lt hb))) h).mono ?_
 rintro e w' ⟨rfl, ⟨A0_, c0_, hb', ⟨_, rfl, rfl⟩, _⟩, hB', hk⟩
 exact ⟨rfl, hb', truncW_done hB hg hB' hk, hk⟩

end Go.Proofs.Ytkcgghgkmgbphaa.PFnMsgs
