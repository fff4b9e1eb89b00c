-- WRITTEN BY a turned copy of the kit's printer (wip/patch_print.py), for this claim
import Derived.Test.YtkcgghgkmgbphaaPFnFramesx0
import Derived.Test.YtkcgghgkmgbphaaPFnFramesx5
import Derived.Test.YtkcgghgkmgbphaaPFnFramesx6
import Derived.Test.YtkcgghgkmgbphaaPFnFramesx8
namespace Go.Proofs.Ytkcgghgkmgbphaa.PFnFrames
open Go.RowKit Go.Proofs.YtkcgghgkmgbphaaW.PrintWords Go.Proofs.YtkcgghgkmgbphaaW.PrintLast Go.Proofs.YtkcgghgkmgbphaaW.PrintMore
attribute [local go_sem] max2_int min2_int max_two min_two max_three min_three max_four min_four   -- for this text's walks alone
set_option linter.unusedVariables false
set_option linter.unusedSimpArgs false

/-- A state of type 127 at block g of W; what its slices lead to came in by w0. -/
def IsS127 (w0 W : World) (g : Nat) (f0 : List Int) (f1 : Int) (f2 : Bool) : Prop := ∃ A0 c0, W.heap[g]? = some (.cells #[.slice A0 f0.length c0, .int .i64 f1, .bool f2] 127 (0, 0)) ∧ w0.heap.size ≤ g ∧ (Kd.C (Kd.int .u8) w0 A0 f0.length f0 ∧ f0.length ≤ c0)
theorem IsS127.grown {w0 W : World} {g : Nat} {f0 : List Int} {f1 : Int} {f2 : Bool} {W1 : World} {row : Option Nat} (h : IsS127 w0 W g f0 f1 f2) (hw : W.grownBy W1 row) (hne : some g ≠ row) : IsS127 w0 W1 g f0 f1 f2 := by
 obtain ⟨A0, c0, hb, hg, hr0⟩ := h
 exact ⟨A0, c0, blk_grown hb hw hne, hg, hr0⟩
theorem IsS127.own_neN {w0 W : World} {g : Nat} {f0 : List Int} {f1 : Int} {f2 : Bool} {α : Type} {d : Kd α} {e : Nat} {base : Nat} {ok : Nat → Prop} {v : Value} {xs : List α} (h : IsS127 w0 W g f0 f1 f2) (ho : Kd.N d e W base ok v xs) (ht : e ≠ 127) : some g ≠ v.ownBlock := by
 obtain ⟨A0, c0, hb, hg, hr0⟩ := h
 exact Kd.N_ne ho hb ht
theorem IsS127.fresh {w0 W : World} {g : Nat} {f0 : List Int} {f1 : Int} {f2 : Bool} (h : IsS127 w0 W g f0 f1 f2) : ∀ k, W.heap.size ≤ k → k ≠ g := by
 obtain ⟨A0, c0, hb, hg, hr0⟩ := h
 exact Kd.freshB hb
theorem IsS127.kept {w0 W : World} {g : Nat} {f0 : List Int} {f1 : Int} {f2 : Bool} {W1 : World} {S : Nat → Prop} (h : IsS127 w0 W g f0 f1 f2) (hk : Kept W W1 S) (hne : ¬ S g) : IsS127 w0 W1 g f0 f1 f2 := by
 obtain ⟨A0, c0, hb, hg, hr0⟩ := h
 exact ⟨A0, c0, blk_kept hb hk hne, hg, hr0⟩
theorem IsS127.below {w0 W : World} {g : Nat} {f0 : List Int} {f1 : Int} {f2 : Bool} {W1 : World} (h : IsS127 w0 W g f0 f1 f2) (hw : Below W.heap.size W W1) : IsS127 w0 W1 g f0 f1 f2 := h.grown (grown_of_below hw none) zq125
theorem IsS127.alloc {w0 W : World} {g : Nat} {f0 : List Int} {f1 : Int} {f2 : Bool} (h : IsS127 w0 W g f0 f1 f2) (o : Obj) : IsS127 w0 (W.alloc o) g f0 f1 f2 := h.below (below_alloc (Below.refl _ _) o)
theorem IsS127.drewN {w0 W : World} {g : Nat} {f0 : List Int} {f1 : Int} {f2 : Bool} (h : IsS127 w0 W g f0 f1 f2) (m : Nat) : IsS127 w0 (W.drewN m) g f0 f1 f2 := h
theorem IsS127.drew {w0 W : World} {g : Nat} {f0 : List Int} {f1 : Int} {f2 : Bool} (h : IsS127 w0 W g f0 f1 f2) : IsS127 w0 W.drew g f0 f1 f2 := h
theorem IsS127.at_ {w0 W : World} {g : Nat} {f0 : List Int} {f1 : Int} {f2 : Bool} {w' : World} {m : Nat} (hq : W.drewN m = w') (h : IsS127 w0 W g f0 f1 f2) : IsS127 w0 w' g f0 f1 f2 := by subst hq; exact IsS127.drewN h m
theorem IsS127.apart {w0 W : World} {g : Nat} {f0 : List Int} {f1 : Int} {f2 : Bool} {α : Type} {d : Kd α} {e : Nat} {base : Nat} {ok : Nat → Prop} {v : Value} {xs : List α} (h : IsS127 w0 W g f0 f1 f2) (ho : d.R e W base ok v xs) (ht : ∀ q, q ∈ e :: d.E → q ≠ 127) : d.R e W base (fun k => ok k ∧ k ≠ g) v xs := by
 obtain ⟨A0, c0, hb, hg, hr0⟩ := h
 exact Kd.R_types ho hb ht
theorem IsS127.own_ne {w0 W : World} {g : Nat} {f0 : List Int} {f1 : Int} {f2 : Bool} {α : Type} {d : Kd α} {e : Nat} {base : Nat} {ok : Nat → Prop} {v : Value} {xs : List α} (h : IsS127 w0 W g f0 f1 f2) (ho : d.R e W base ok v xs) (ht : e ≠ 127) : some g ≠ v.ownBlock := by
 obtain ⟨A0, c0, hb, hg, hr0⟩ := h
 exact Kd.R_ne ho hb ht
theorem IsS127.apartQ {w0 W : World} {g : Nat} {f0 : List Int} {f1 : Int} {f2 : Bool} {α : Type} {d : Kd α} {e : Nat} {base : Nat} {ok : Nat → Prop} {v : Value} {xs : List α} (h : IsS127 w0 W g f0 f1 f2) (ho : d.Q e W base ok v xs) (ht : ∀ q, q ∈ e :: d.E → q ≠ 127) : d.Q e W base (fun k => ok k ∧ k ≠ g) v xs := by
 obtain ⟨A0, c0, hb, hg, hr0⟩ := h
 exact Kd.Q_types ho hb ht
theorem IsS127.own_neQ {w0 W : World} {g : Nat} {f0 : List Int} {f1 : Int} {f2 : Bool} {α : Type} {d : Kd α} {e : Nat} {base : Nat} {ok : Nat → Prop} {v : Value} {xs : List α} (h : IsS127 w0 W g f0 f1 f2) (ho : d.Q e W base ok v xs) (ht : e ≠ 127) : some g ≠ v.ownBlock := by
 obtain ⟨A0, c0, hb, hg, hr0⟩ := h
 exact Kd.Q_ne ho hb ht
theorem IsS127.apartS {w0 W : World} {g : Nat} {f0 : List Int} {f1 : Int} {f2 : Bool} {α : Type} {d : Kd α} {e : Nat} {base : Nat} {ok : Nat → Prop} {v : Value} {xs : List α} (h : IsS127 w0 W g f0 f1 f2) (ho : d.S e W base ok v xs) (ht : ∀ q, q ∈ e :: d.E → q ≠ 127) : d.S e W base (fun k => ok k ∧ k ≠ g) v xs := by
 obtain ⟨A0, c0, hb, hg, hr0⟩ := h
 exact Kd.S_types ho hb ht
theorem IsS127.own_neS {w0 W : World} {g : Nat} {f0 : List Int} {f1 : Int} {f2 : Bool} {α : Type} {d : Kd α} {e : Nat} {base : Nat} {ok : Nat → Prop} {v : Value} {xs : List α} (h : IsS127 w0 W g f0 f1 f2) (ho : d.S e W base ok v xs) (ht : e ≠ 127) : some g ≠ v.ownBlock := by
 obtain ⟨A0, c0, hb, hg, hr0⟩ := h
 exact Kd.S_ne ho hb ht
theorem IsS127.lt {w0 W : World} {g : Nat} {f0 : List Int} {f1 : Int} {f2 : Bool} (h : IsS127 w0 W g f0 f1 f2) : g < W.heap.size := by
 obtain ⟨A0, c0, hb, hg, hr0⟩ := h
 exact blk_lt hb
theorem IsS127.ge {w0 W : World} {g : Nat} {f0 : List Int} {f1 : Int} {f2 : Bool} (h : IsS127 w0 W g f0 f1 f2) : w0.heap.size ≤ g := by
 obtain ⟨A0, c0, hb, hg, hr0⟩ := h
 exact hg
theorem IsS127.ne_blk {w0 W : World} {g : Nat} {f0 : List Int} {f1 : Int} {f2 : Bool} {a : Nat} {cs : Array Value} {t : TypeId} {fr : Nat × Nat} (h : IsS127 w0 W g f0 f1 f2) (hb2 : W.heap[a]? = some (.cells cs t fr)) (ht : t ≠ 127) : g ≠ a := by
 obtain ⟨A0, c0, hb, hg, hr0⟩ := h
 rintro rfl
 rw [hb] at hb2
 injection hb2 with hb2
 injection hb2 with _ ht2
 exact ht ht2.symm
theorem IsS127.far {w0 W : World} {g : Nat} {f0 : List Int} {f1 : Int} {f2 : Bool} {p : Addr} (h : IsS127 w0 W g f0 f1 f2) (hne : g ≠ p.block) (u : Value) : IsS127 w0 (W.setCell p u) g f0 f1 f2 := by
 obtain ⟨A0, c0, hb, hg, hr0⟩ := h
 exact ⟨A0, c0, blk_far hb hne u, hg, hr0⟩
theorem cellS127_0 {W : World} {g : Nat} {A0 : Option Addr} {c0 : Nat} {f0 : List Int} {f1 : Int} {f2 : Bool} (h : W.heap[g]? = some (.cells #[.slice A0 f0.length c0, .int .i64 f1, .bool f2] 127 (0, 0))) : W.cell? ⟨g, 0, none⟩ = some (.slice A0 f0.length c0) := (blk_cell h 0).trans rfl
theorem cellS127_1 {W : World} {g : Nat} {A0 : Option Addr} {c0 : Nat} {f0 : List Int} {f1 : Int} {f2 : Bool} (h : W.heap[g]? = some (.cells #[.slice A0 f0.length c0, .int .i64 f1, .bool f2] 127 (0, 0))) : W.cell? ⟨g, 1, none⟩ = some (.int .i64 f1) := (blk_cell h 1).trans rfl
theorem IsS127.set_1 {w0 W : World} {g : Nat} {f0 : List Int} {f1 : Int} {f2 : Bool} (h : IsS127 w0 W g f0 f1 f2) (x : Int) : IsS127 w0 (W.setCell ⟨g, 1, none⟩ (.int .i64 x)) g f0 x f2 := by
 obtain ⟨A0, c0, hb, hg, hr0⟩ := h
 exact ⟨A0, c0, (by simpa using blk_set hb 1 (.int .i64 x)), hg, hr0⟩
theorem cellS127_2 {W : World} {g : Nat} {A0 : Option Addr} {c0 : Nat} {f0 : List Int} {f1 : Int} {f2 : Bool} (h : W.heap[g]? = some (.cells #[.slice A0 f0.length c0, .int .i64 f1, .bool f2] 127 (0, 0))) : W.cell? ⟨g, 2, none⟩ = some (.bool f2) := (blk_cell h 2).trans rfl
theorem IsS127.set_2 {w0 W : World} {g : Nat} {f0 : List Int} {f1 : Int} {f2 : Bool} (h : IsS127 w0 W g f0 f1 f2) (x : Bool) : IsS127 w0 (W.setCell ⟨g, 2, none⟩ (.bool x)) g f0 f1 x := by
 obtain ⟨A0, c0, hb, hg, hr0⟩ := h
 exact ⟨A0, c0, (by simpa using blk_set hb 2 (.bool x)), hg, hr0⟩
theorem IsS127.new (w0 W : World) (A0 : Option Addr) (c0 : Nat) (f0 : List Int) (f1 : Int) (f2 : Bool) (hB : Below w0.heap.size w0 W) (hr0 : Kd.C (Kd.int .u8) w0 A0 f0.length f0 ∧ f0.length ≤ c0) : IsS127 w0 (W.alloc (.cells #[.slice A0 f0.length c0, .int .i64 f1, .bool f2] 127)) W.heap.size f0 f1 f2 := ⟨A0, c0, (by simpa using heap_alloc_new W _), hB.size, hr0⟩

/-! ### impl_parts_part: function 114 -/
def impl_parts_part.f (s0_0 : List Int) (s0_1 : Int) (s0_2 : Bool) (a1 : Int) : Option (List Int × Int × Bool) := (impl_GetTlv.f s0_0 s0_1).bind fun bt300 => (if s0_2 = true then (some (([] : List Int), s0_1, true)) else (if bt300.2.2.2 = true then (if bt300.1 = a1 then (some (bt300.2.1, bt300.2.2.1, s0_2)) else (some (([] : List Int), s0_1, true))) else (some (([] : List Int), s0_1, true))))
def impl_parts_part.T1 : Bool × List (List Nat × List Nat) := (true, [([], []), ([0], [0]), ([1], [1]), ([2], [2]), ([], []), ([4], [4]), ([5], [5]), ([6], [6]), ([3, 7], [3, 7]), ([8], [8]), ([9], [9]), ([9], [9]), ([9], [9]), ([9], [9]), ([10, 8, 0, 1, 2, 3, 4, 5, 6, 7, 8, 9, 10], [10]), ([11, 14, 0, 1, 2, 3, 4, 5, 6, 7, 8, 9, 10, 11, 14], [11]), ([12, 15, 0, 1, 2, 3, 4, 5, 6, 7, 8, 9, 10, 11, 12, 14, 15], [12]), ([13, 16, 0, 1, 2, 3, 4, 5, 6, 7, 8, 9, 10, 11, 12, 13, 14, 15, 16], [13])])
def impl_parts_part.B1 : List Nat := [0, 1, 3, 7, 0, 16, 48, 112, 255, 511, 1023, 1023, 1023, 1023, 2047, 20479, 57343, 131071]
theorem impl_parts_part.tab1 : rtab .any (opsOf Try.f114 1) = impl_parts_part.T1 := by kernel_rfl
theorem impl_parts_part.bits1 : waitsOk impl_parts_part.T1.2 impl_parts_part.B1 = true := by kernel_rfl
set_option maxHeartbeats 8000000 in
set_option maxRecDepth 100000 in
theorem impl_parts_part.calls (g : Nat) (s0_0 : List Int) (s0_1 : Int) (s0_2 : Bool) (a1 : Int) (r1 : List Int) (r2 : Int) (r3 : Bool) (w0 w : World) (hI : IsS127 w0 w g s0_0 s0_1 s0_2) (hB : Below w0.heap.size w0 w) (h : impl_parts_part.f s0_0 s0_1 s0_2 a1 = some (r1, r2, r3)) :
  Calls Try.prog 114 #[.pointer (some ⟨g, 0, none⟩), .int .i64 a1] w fun e w' => ∃ v0_ : Value, e = .returned (v0_) ∧ Kd.R (Kd.int .u8) 5 w' w.heap.size (fun _ => True) v0_ r1 ∧ IsS127 w0 w' g s0_0 r2 r3 ∧ Below w0.heap.size w0 w' ∧ KeepBut w w' g none := by
 have HI0 := zA hI
 have HK := zA (KeepBut.refl w g none)
 have HL := zA hB.size
 clear hI
 have HW0 := zA hB.size
 have HB := zA hB
 clear hB
 unfold impl_parts_part.f at h
 have H := h
 clear h
 have HC3 := zA H
 clear H
 go_enter Try.func114, Try.ntmps114
 go_upto_region 0 with (fail)
 have H := HC3.out
 clear HC3
 have HC4 := zA H
 clear H
 go_upto_region 1 with (fail)
 have H := HC4.out
 clear HC4
 obtain ⟨⟨t300, t301, t302, t303⟩, A5, H⟩ := zB H
 try dsimp only at H
 have HC6 := zA H
 clear H
 try go_wp2
 have n0_ := zA (IsS127.drew HI0.out)
 have n1_ := zA (keep_drew HK.out)
 have n2_ := zA (below_drew1 HB.out)
 clear HI0
 clear HK
 clear HB
 have HI0 := n0_
 have HK := n1_
 have HB := n2_
 clear n0_ n1_ n2_
 obtain ⟨ASz8_0, cSz8_0, HGz8, hgz8, ⟨HSz8_0, HSKz8_0⟩⟩ := HI0.out
 have HSCz8_0 := zA HSKz8_0
 clear HSKz8_0
 have hcz8_0 := cellS127_0 HGz8
 have hcz8_1 := cellS127_1 HGz8
 have hcz8_2 := cellS127_2 HGz8
 have hfz8_1 := blk_frozen HGz8 1
 have hfz8_2 := blk_frozen HGz8 2
 clear HGz8 hgz8
 refine start_ (n := 18) (S := fun w' => w'.cell? ⟨g, 0, none⟩ = some (.slice ASz8_0 s0_0.length cSz8_0) ∧ w'.cell? ⟨g, 1, none⟩ = some (.int .i64 s0_1) ∧ w'.cell? ⟨g, 2, none⟩ = some (.bool s0_2)) (ds := []) #[false, false, false, false, false, false, false, false, false, false, false, false, false, false, false, false, false, false] (by kernel_rfl) rfl rfl ⟨hcz8_0, hcz8_1, hcz8_2⟩ (fun hHeld => ?_); refine with_tabW impl_parts_part.tab1 impl_parts_part.bits1 (fun HT_ HW_ => ?_)
 generalize w.drew = w7 at HI0 HK HB hHeld ⊢
 refine pure_ (i := 0) (N := some 10) (v := ?_) (a' := ?_) #[true, false, false, false, false, false, false, false, false, false, false, false, false, false, false, false, false, false] rfl rfl (any_of HT_.out (by kernel_rfl)) (fun _ _ _ h => h) (Or.inl ⟨zq110, ?_⟩) ?_ ?_
 rotate_left
 ·intro w'
  go_simp
  with_reducible rfl
 rotate_left
 ·simp only [Act.put, List.setIfInBounds_toArray, List.set_cons_zero, List.set_cons_succ, i64_w, i32_w]
  rfl
 refine pure_ (i := 1) (N := some 11) (v := ?_) (a' := ?_) #[true, true, false, false, false, false, false, false, false, false, false, false, false, false, false, false, false, false] rfl rfl (any_of HT_.out (by kernel_rfl)) (fun _ _ _ h => h) (Or.inl ⟨zq110, ?_⟩) ?_ ?_
 rotate_left
 ·intro w'
  go_simp
  with_reducible rfl
 rotate_left
 ·simp only [Act.put, List.setIfInBounds_toArray, List.set_cons_zero, List.set_cons_succ, i64_w, i32_w]
  rfl
 refine pure_ (i := 2) (N := some 12) (v := ?_) (a' := ?_) #[true, true, true, false, false, false, false, false, false, false, false, false, false, false, false, false, false, false] rfl rfl (any_of HT_.out (by kernel_rfl)) (fun _ _ _ h => h) (Or.inl ⟨zq110, ?_⟩) ?_ ?_
 rotate_left
 ·intro w'
  go_simp
  with_reducible rfl
 rotate_left
 ·simp only [Act.put, List.setIfInBounds_toArray, List.set_cons_zero, List.set_cons_succ, i64_w, i32_w]
  rfl
 refine pure_ (i := 4) (N := some 14) (v := ?_) (a' := ?_) #[true, true, true, false, true, false, false, false, false, false, false, false, false, false, false, false, false, false] rfl rfl (any_of HT_.out (by kernel_rfl)) (fun _ _ _ h => h) (Or.inl ⟨zq110, ?_⟩) ?_ ?_
 rotate_left
 ·intro w'
  go_simp
  with_reducible rfl
 rotate_left
 ·simp only [Act.put, List.setIfInBounds_toArray, List.set_cons_zero, List.set_cons_succ, i64_w, i32_w]
  rfl
 refine pure_ (i := 5) (N := some 15) (v := ?_) (a' := ?_) #[true, true, true, false, true, true, false, false, false, false, false, false, false, false, false, false, false, false] rfl rfl (any_of HT_.out (by kernel_rfl)) (fun _ _ _ h => h) (Or.inl ⟨zq110, ?_⟩) ?_ ?_
 rotate_left
 ·intro w'
  go_simp
  with_reducible rfl
 rotate_left
 ·simp only [Act.put, List.setIfInBounds_toArray, List.set_cons_zero, List.set_cons_succ, i64_w, i32_w]
  rfl
 refine pure_ (i := 6) (N := some 16) (v := ?_) (a' := ?_) #[true, true, true, false, true, true, true, false, false, false, false, false, false, false, false, false, false, false] rfl rfl (any_of HT_.out (by kernel_rfl)) (fun _ _ _ h => h) (Or.inl ⟨zq110, ?_⟩) ?_ ?_
 rotate_left
 ·intro w'
  go_simp
  with_reducible rfl
 rotate_left
 ·simp only [Act.put, List.setIfInBounds_toArray, List.set_cons_zero, List.set_cons_succ, i64_w, i32_w]
  rfl
 refine take_ (i := 3) (N := some 13) (v := ?_) (a' := ?_) #[true, true, true, true, true, true, true, false, false, false, false, false, false, false, false, false, false, false] rfl rfl (take_ofW HT_.out HW_.out (by kernel_rfl)) (fun _ _ _ h => h) (Or.inl ⟨zq110, ?_⟩) hHeld ?_ ?_
 rotate_left
 ·rintro w' ⟨s0, s1, s2⟩
  go_simp
  with_reducible rfl
 rotate_left
 ·simp only [Act.put, List.setIfInBounds_toArray, List.set_cons_zero, List.set_cons_succ, i64_w, i32_w]
  rfl
 refine take_ (i := 7) (N := some 17) (v := ?_) (a' := ?_) #[true, true, true, true, true, true, true, true, false, false, false, false, false, false, false, false, false, false] rfl rfl (take_ofW HT_.out HW_.out (by kernel_rfl)) (fun _ _ _ h => h) (Or.inl ⟨zq110, ?_⟩) hHeld ?_ ?_
 rotate_left
 ·rintro w' ⟨s0, s1, s2⟩
  go_simp
  with_reducible rfl
 rotate_left
 ·simp only [Act.put, List.setIfInBounds_toArray, List.set_cons_zero, List.set_cons_succ, i64_w, i32_w]
  rfl
 refine one_ (i := 8) (N := some 18) #[true, true, true, true, true, true, true, true, true, false, false, false, false, false, false, false, false, false] rfl rfl (one_of HT_.out (by kernel_rfl)) zq40 (fun K hK => ?_)
 refine goes_ Try.func112 (by kernel_rfl) rfl #[.slice ASz8_0 s0_0.length cSz8_0, .int .i64 s0_1] zq110 rfl rfl zq1 ?_
 with_reducible refine (impl_GetTlv.calls _ _ s0_0 s0_1 t300 t301 t302 t303 _ ?side1 ?side2 A5.out).mono ?_
 (case side1 => exact Kd.C_below HSz8_0 zq49)
 (case side2 => exact HSCz8_0.out)
 rintro e w9 ⟨v304, rfl, ho0, hb⟩
 have HS0_ := (hb.cell (World.block_lt_of_cell? _ _ (hHeld.1))).trans (hHeld.1)
 have HS1_ := (hb.cell (World.block_lt_of_cell? _ _ (hHeld.2.1))).trans (hHeld.2.1)
 have HS2_ := (hb.cell (World.block_lt_of_cell? _ _ (hHeld.2.2))).trans (hHeld.2.2)
 refine ⟨_, rfl, ?_⟩
 have n0_ := zA (Kd.R_lower ho0 (keep_size (w := w) (g := g) (row := none) zq3))
 have n1_ := zA (IsS127.below zq51 hb)
 have n2_ := zA (KeepBut.trans zq3 (KeepBut.of_below hb g none) (.inl rfl))
 have n3_ := zA (below_step zq49 hb)
 clear HI0
 clear HK
 clear HB
 have HO305 := n0_
 have HI0 := n1_
 have HK := n2_
 have HB := n3_
 clear n0_ n1_ n2_ n3_
 (try clear hb)
 (try clear hb2)
 (try clear hk)
 (try clear hi)
 (try clear ho0)
 refine hK.out _ _ ⟨HS0_, HS1_, HS2_⟩ (fun hHeld => ?_)
 clear hK K
 refine norm_ (a' := ?_) ?_ ?_
 rotate_left
 ·show Act.put _ (some 18) _ = _
  simp only [Act.put, List.setIfInBounds_toArray, List.set_cons_zero, List.set_cons_succ, i64_w, i32_w]
  rfl
 refine pure_ (i := 9) (N := some 9) (v := ?_) (a' := ?_) #[true, true, true, true, true, true, true, true, true, true, false, false, false, false, false, false, false, false] rfl rfl (any_of HT_.out (by kernel_rfl)) (fun _ _ _ h => h) (Or.inl ⟨zq110, ?_⟩) ?_ ?_
 rotate_left
 ·intro w'
  go_simp
  with_reducible rfl
 rotate_left
 ·simp only [Act.put, List.setIfInBounds_toArray, List.set_cons_zero, List.set_cons_succ, i64_w, i32_w]
  rfl
 refine pure_ (i := 10) (N := some 19) (v := ?_) (a' := ?_) #[true, true, true, true, true, true, true, true, true, true, true, false, false, false, false, false, false, false] rfl rfl (any_of HT_.out (by kernel_rfl)) (fun _ _ _ h => h) (Or.inl ⟨zq110, ?_⟩) ?_ ?_
 rotate_left
 ·intro w'
  go_simp
  with_reducible rfl
 rotate_left
 ·simp only [Act.put, List.setIfInBounds_toArray, List.set_cons_zero, List.set_cons_succ, i64_w, i32_w]
  rfl
 refine pure_ (i := 11) (N := some 20) (v := ?_) (a' := ?_) #[true, true, true, true, true, true, true, true, true, true, true, true, false, false, false, false, false, false] rfl rfl (any_of HT_.out (by kernel_rfl)) (fun _ _ _ h => h) (Or.inl ⟨zq110, ?_⟩) ?_ ?_
 rotate_left
 ·intro w'
  go_simp
  with_reducible rfl
 rotate_left
 ·simp only [Act.put, List.setIfInBounds_toArray, List.set_cons_zero, List.set_cons_succ, i64_w, i32_w]
  rfl
 refine pure_ (i := 12) (N := some 21) (v := ?_) (a' := ?_) #[true, true, true, true, true, true, true, true, true, true, true, true, true, false, false, false, false, false] rfl rfl (any_of HT_.out (by kernel_rfl)) (fun _ _ _ h => h) (Or.inl ⟨zq110, ?_⟩) ?_ ?_
 rotate_left
 ·intro w'
  go_simp
  with_reducible rfl
 rotate_left
 ·simp only [Act.put, List.setIfInBounds_toArray, List.set_cons_zero, List.set_cons_succ, i64_w, i32_w]
  rfl
 refine pure_ (i := 13) (N := some 22) (v := ?_) (a' := ?_) #[true, true, true, true, true, true, true, true, true, true, true, true, true, true, false, false, false, false] rfl rfl (any_of HT_.out (by kernel_rfl)) (fun _ _ _ h => h) (Or.inl ⟨zq110, ?_⟩) ?_ ?_
 rotate_left
 ·intro w'
  go_simp
  with_reducible rfl
 rotate_left
 ·simp only [Act.put, List.setIfInBounds_toArray, List.set_cons_zero, List.set_cons_succ, i64_w, i32_w]
  rfl
 refine pure_ (i := 14) (N := some 5) (v := ?_) (a' := ?_) #[true, true, true, true, true, true, true, true, true, true, true, true, true, true, true, false, false, false] rfl rfl (any_of HT_.out (by kernel_rfl)) (fun _ _ _ h => h) (Or.inl ⟨zq110, ?_⟩) ?_ ?_
 rotate_left
 ·intro w'
  go_simp
  with_reducible rfl
 rotate_left
 ·simp only [Act.put, List.setIfInBounds_toArray, List.set_cons_zero, List.set_cons_succ, i64_w, i32_w]
  rfl
 refine pure_ (i := 15) (N := some 6) (v := ?_) (a' := ?_) #[true, true, true, true, true, true, true, true, true, true, true, true, true, true, true, true, false, false] rfl rfl (any_of HT_.out (by kernel_rfl)) (fun _ _ _ h => h) (Or.inl ⟨zq110, ?_⟩) ?_ ?_
 rotate_left
 ·intro w'
  go_simp
  with_reducible rfl
 rotate_left
 ·simp only [Act.put, List.setIfInBounds_toArray, List.set_cons_zero, List.set_cons_succ, i64_w, i32_w]
  rfl
 refine pure_ (i := 16) (N := some 7) (v := ?_) (a' := ?_) #[true, true, true, true, true, true, true, true, true, true, true, true, true, true, true, true, true, false] rfl rfl (any_of HT_.out (by kernel_rfl)) (fun _ _ _ h => h) (Or.inl ⟨zq110, ?_⟩) ?_ ?_
 rotate_left
 ·intro w'
  go_simp
  with_reducible rfl
 rotate_left
 ·simp only [Act.put, List.setIfInBounds_toArray, List.set_cons_zero, List.set_cons_succ, i64_w, i32_w]
  rfl
 refine pure_ (i := 17) (N := some 8) (v := ?_) (a' := ?_) #[true, true, true, true, true, true, true, true, true, true, true, true, true, true, true, true, true, true] rfl rfl (any_of HT_.out (by kernel_rfl)) (fun _ _ _ h => h) (Or.inl ⟨zq110, ?_⟩) ?_ ?_
 rotate_left
 ·intro w'
  go_simp
  with_reducible rfl
 rotate_left
 ·simp only [Act.put, List.setIfInBounds_toArray, List.set_cons_zero, List.set_cons_succ, i64_w, i32_w]
  rfl
 refine done_ (done_of HT_.out (by kernel_rfl)) ?_
 go_upto_region 2 with (fail)
 have H := HC6.out
 clear HC6
 by_cases c10 : s0_2 = true
 ·subst c10
  rw [if_pos rfl] at H
  have HC11 := zA H
  clear H
  obtain ⟨ASz12_0, cSz12_0, HGz12, hgz12, ⟨HSz12_0, HSKz12_0⟩⟩ := HI0.out
  have HSCz12_0 := zA HSKz12_0
  clear HSKz12_0
  have hcz12_0 := cellS127_0 HGz12
  have hcz12_1 := cellS127_1 HGz12
  have hcz12_2 := cellS127_2 HGz12
  have hfz12_1 := blk_frozen HGz12 1
  have hfz12_2 := blk_frozen HGz12 2
  clear HGz12 hgz12
  go_upto_region 3 with (fail)
  have H := HC11.out
  clear HC11
  have HC13 := zA H
  clear H
  obtain ⟨ASz14_0, cSz14_0, HGz14, hgz14, ⟨HSz14_0, HSKz14_0⟩⟩ := HI0.out
  have HSCz14_0 := zA HSKz14_0
  clear HSKz14_0
  have hcz14_0 := cellS127_0 HGz14
  have hcz14_1 := cellS127_1 HGz14
  have hcz14_2 := cellS127_2 HGz14
  have hfz14_1 := blk_frozen HGz14 1
  have hfz14_2 := blk_frozen HGz14 2
  clear HGz14 hgz14
  go_upto_region 4 with (fail)
  have H := HC13.out
  clear HC13
  simp only [Option.some.injEq, Prod.mk.injEq] at H
  obtain ⟨rfl, rfl, rfl⟩ := H
  go_wp2
  go_ret
  exact ⟨_, zq5, zq20, zq51, zq49, zq3⟩
 ·replace c10 := Bool.eq_false_iff.mpr c10
  subst c10
  rw [if_neg zF] at H
  by_cases c15 : t303 = true
  ·subst c15
   rw [if_pos rfl] at H
   by_cases c16 : t300 = a1
   ·rw [if_pos c16] at H
    have c16b0 : (t300 == a1) = true := beq_iff_eq.mpr c16
    have c16b1 : (t300 != a1) = false := bne_eq_false_iff_eq.mpr c16
    clear c16
    have HC17 := zA H
    clear H
    obtain ⟨ASz18_0, cSz18_0, HGz18, hgz18, ⟨HSz18_0, HSKz18_0⟩⟩ := HI0.out
    have HSCz18_0 := zA HSKz18_0
    clear HSKz18_0
    have hcz18_0 := cellS127_0 HGz18
    have hcz18_1 := cellS127_1 HGz18
    have hcz18_2 := cellS127_2 HGz18
    have hfz18_1 := blk_frozen HGz18 1
    have hfz18_2 := blk_frozen HGz18 2
    clear HGz18 hgz18
    go_upto_region 5 with (fail)
    have H := HC17.out
    clear HC17
    have HC19 := zA H
    clear H
    obtain ⟨ASz20_0, cSz20_0, HGz20, hgz20, ⟨HSz20_0, HSKz20_0⟩⟩ := HI0.out
    have HSCz20_0 := zA HSKz20_0
    clear HSKz20_0
    have hcz20_0 := cellS127_0 HGz20
    have hcz20_1 := cellS127_1 HGz20
    have hcz20_2 := cellS127_2 HGz20
    have hfz20_1 := blk_frozen HGz20 1
    have hfz20_2 := blk_frozen HGz20 2
    clear HGz20 hgz20
    go_upto_region 6 with (fail)
    have H := HC19.out
    clear HC19
    simp only [Option.some.injEq, Prod.mk.injEq] at H
    obtain ⟨rfl, rfl, rfl⟩ := H
    go_wp2
    go_ret
    exact ⟨_, zq5, (by (with_reducible repeat (first | apply Kd.R_alloc | apply Kd.R_drewN | apply Kd.R_drew)); exact Kd.R_mono (Kd.R_far (p := ⟨g, 1, none⟩) (IsS127.apart HI0.out HO305.out zq40) (fun _ hk => hk.2) (.int .i64 t302)) (fun _ hk => trivial)), zq51, zq49, zq3⟩
   ·rw [if_neg c16] at H
    have c16b0 : (t300 == a1) = false := beq_eq_false_iff_ne.mpr c16
    have c16b1 : (t300 != a1) = true := bne_iff_ne.mpr c16
    have HC21 := zA H
    clear H
    obtain ⟨ASz22_0, cSz22_0, HGz22, hgz22, ⟨HSz22_0, HSKz22_0⟩⟩ := HI0.out
    have HSCz22_0 := zA HSKz22_0
    clear HSKz22_0
    have hcz22_0 := cellS127_0 HGz22
    have hcz22_1 := cellS127_1 HGz22
    have hcz22_2 := cellS127_2 HGz22
    have hfz22_1 := blk_frozen HGz22 1
    have hfz22_2 := blk_frozen HGz22 2
    clear HGz22 hgz22
    go_upto_region 3 with (fail)
    have H := HC21.out
    clear HC21
    have HC23 := zA H
    clear H
    obtain ⟨ASz24_0, cSz24_0, HGz24, hgz24, ⟨HSz24_0, HSKz24_0⟩⟩ := HI0.out
    have HSCz24_0 := zA HSKz24_0
    clear HSKz24_0
    have hcz24_0 := cellS127_0 HGz24
    have hcz24_1 := cellS127_1 HGz24
    have hcz24_2 := cellS127_2 HGz24
    have hfz24_1 := blk_frozen HGz24 1
    have hfz24_2 := blk_frozen HGz24 2
    clear HGz24 hgz24
    go_upto_region 4 with (fail)
    have H := HC23.out
    clear HC23
    simp only [Option.some.injEq, Prod.mk.injEq] at H
    obtain ⟨rfl, rfl, rfl⟩ := H
    go_wp2
    go_ret
    exact ⟨_, zq5, zq20, zq51, zq49, zq3⟩
  ·replace c15 := Bool.eq_false_iff.mpr c15
   subst c15
   rw [if_neg zF] at H
   have HC25 := zA H
   clear H
   obtain ⟨ASz26_0, cSz26_0, HGz26, hgz26, ⟨HSz26_0, HSKz26_0⟩⟩ := HI0.out
   have HSCz26_0 := zA HSKz26_0
   clear HSKz26_0
   have hcz26_0 := cellS127_0 HGz26
   have hcz26_1 := cellS127_1 HGz26
   have hcz26_2 := cellS127_2 HGz26
   have hfz26_1 := blk_frozen HGz26 1
   have hfz26_2 := blk_frozen HGz26 2
   clear HGz26 hgz26
   go_upto_region 3 with (fail)
   have H := HC25.out
   clear HC25
   have HC27 := zA H
   clear H
   obtain ⟨ASz28_0, cSz28_0, HGz28, hgz28, ⟨HSz28_0, HSKz28_0⟩⟩ := HI0.out
   have HSCz28_0 := zA HSKz28_0
   clear HSKz28_0
   have hcz28_0 := cellS127_0 HGz28
   have hcz28_1 := cellS127_1 HGz28
   have hcz28_2 := cellS127_2 HGz28
   have hfz28_1 := blk_frozen HGz28 1
   have hfz28_2 := blk_frozen HGz28 2
   clear HGz28 hgz28
   go_upto_region 4 with (fail)
   have H := HC27.out
   clear HC27
   simp only [Option.some.injEq, Prod.mk.injEq] at H
   obtain ⟨rfl, rfl, rfl⟩ := H
   go_wp2
   go_ret
   exact ⟨_, zq5, zq20, zq51, zq49, zq3⟩

/-! ### impl_GetInt: function 170 -/
def impl_GetInt.l0 : Nat → List Int → Int → List Int → Int → Int → Option (Int × Bool)
 | 0, _, _, _, _, _ => none
 | k + 1, x0, x4, x17, x18, x19 => if x19 < x18 then (if 0 ≤ x19 then (if x19 < (x17.length : Int) then (impl_GetInt.l0 k x0 (Go.bits .or .i64 (wrap64 (x4 * 256)) (wrap64 (rd x17 x19))) x17 x18 (wrap64 (x19 + 1))) else (none)) else (none)) else ((impl_PutInt.f k x4).bind fun t310 => (if (t310.length : Int) = (x0.length : Int) then (some (x4, true)) else (some (0, false))))
def impl_GetInt.f (k : Nat) (l0 : List Int) : Option (Int × Bool) := (impl_in.f (l0.length : Int) 1 4).bind fun t306 => (if t306 = true then (if 0 < (l0.length : Int) then (if 1 ≤ (l0.length : Int) then (impl_GetInt.l0 k l0 (wrap64 (IntKind.i8.wrap (rd l0 0))) (l0.drop 1) ((l0.drop 1).length : Int) 0) else (none)) else (none)) else (some (0, false)))
theorem impl_GetInt.mono_l : ∀ k, (∀ y0 y1 y2 y3 y4, LeO (impl_GetInt.l0 k y0 y1 y2 y3 y4) (impl_GetInt.l0 (k + 1) y0 y1 y2 y3 y4))
 | 0 => fun _ _ _ _ _ r h => by simp [impl_GetInt.l0] at h
 | k + 1 => by
  have ih0 := impl_GetInt.mono_l k
  ·intro y0 y1 y2 y3 y4
   unfold impl_GetInt.l0
   have m0_ := @impl_PutInt.mono
   exact zR
theorem impl_GetInt.mono : ∀ a0 k, LeO (impl_GetInt.f k a0) (impl_GetInt.f (k + 1) a0) := by
 intro a0 k
 have ih0 := impl_GetInt.mono_l k
 unfold impl_GetInt.f
 have m0_ := @impl_PutInt.mono
 exact zR
set_option maxHeartbeats 8000000 in
set_option maxRecDepth 100000 in
theorem impl_GetInt.calls (k : Nat) (A0 : Option Addr) (c0 : Nat) (l0 : List Int) (r1 : Int) (r2 : Bool) (w : World) (hr0 : Kd.C (Kd.int .u8) w A0 l0.length l0) (hc0 : l0.length ≤ c0) (h : impl_GetInt.f k l0 = some (r1, r2)) :
  Calls Try.prog 170 #[.slice A0 l0.length c0] w fun e w' => e = .returned (.tuple #[.int .i64 r1, .bool r2]) ∧ Below w.heap.size w w' := by
 have HR0 := zA hr0
 have HC0 := zA hc0
 clear hr0 hc0
 have HB := zA (Below.refl w.heap.size w)
 unfold impl_GetInt.f at h
 have H := h
 clear h
 have HC2 := zA H
 clear H
 go_enter Try.func170, Try.ntmps170
 go_upto_region 0 with (fail)
 have H := HC2.out
 clear HC2
 have HC3 := zA H
 clear H
 go_upto_region 1 with (fail)
 have H := HC3.out
 clear HC3
 obtain ⟨t306, A4, H⟩ := zB H
 try dsimp only at H
 by_cases c5 : t306 = true
 ·subst c5
  rw [if_pos rfl] at H
  have HC6 := zA H
  clear H
  go_upto_region 3 with (first | ((with_reducible refine gate_callee (f := 122) rfl ?_); refine goesL_ (some 9) rfl rfl Try.func122 (by kernel_rfl) rfl #[.int .i64 (l0.length : Int), .int .i64 1, .int .i64 4] rfl zq1 ?_; (with_reducible refine (impl_in.calls (l0.length : Int) 1 4 true _ A4.out).mono ?_); rintro e w' ⟨rfl, ⟨nd, rfl⟩⟩; refine ⟨_, rfl, ?_⟩))
  (try simp only [Act.put, List.setIfInBounds_toArray, List.set_cons_zero, List.set_cons_succ])
  have H := HC6.out
  clear HC6
  obtain ⟨c7, H⟩ := zN H
  have c7b0 : decide (0 < (l0.length : Int)) = true := decide_eq_true c7
  have c7b1 : decide (0 < l0.length) = true := decide_eq_true zq177
  clear c7
  have HC8 := zA H
  clear H
  have p307 : 0 ≤ (0 : Int) := zq177
  have q307 : 0 < (l0.length : Int) := of_decide_eq_true zq17
  obtain ⟨ad307, e307, hx307_0⟩ := Kd.at_int HR0.out 0 p307 q307
  cases e307
  have qi307 : (0 < l0.length) = True := eq_true zq177
  (try rw [show ((0 : Int)).toNat = 0 from rfl] at hx307_0)
  (try rw [Addr.add_zero'] at hx307_0)
  replace hx307_0 := (HB.out.cell (World.block_lt_of_cell? w _ hx307_0)).trans hx307_0
  replace p307 := eq_true p307
  replace q307 := eq_true q307
  go_upto_region 4 with (fail)
  have H := HC8.out
  clear HC8
  obtain ⟨c9, H⟩ := zN H
  have c9b0 := eq_true c9
  have c9b1 : decide (1 ≤ (l0.length : Int)) = true := decide_eq_true c9
  clear c9
  have H' := zA H
  clear H
  obtain ⟨i010, hi010, _, hsz10, _⟩ := info_parts info5
  obtain ⟨A10, hcut10, hA10, hC10⟩ := print_drop_of (P := Try.prog) (Value.int .u8) 0 22 5 .i64 Try.underlying22 hi010 hsz10 (some ad307) c0 l0 1 zq177 (of_decide_eq_true zq17) HC0.out
  have HR308 := zA (Kd.C_of_reads (h1 := fun _ => rfl) (hA10 _ (Kd.reads_of_C HR0.out)))
  have HC308 := zA hC10
  clear hA10 hC10 hi010 hsz10
  go_wp2
  go_loopg [4, 19] k (fun kq v4 v19 w' => ∃ (x4_1 : Int) (x19_1 : Int), v4 = .int .i64 x4_1 ∧ v19 = .int .i64 x19_1 ∧ Aside0 (impl_GetInt.l0 kq l0 x4_1 (l0.drop 1) ((l0.drop 1).length : Int) x19_1 = some (r1, r2)) ∧ Aside0 (kq ≤ k) ∧ Aside0 (Below w.heap.size w w'))
  case atStart => exact ⟨(wrap64 (IntKind.i8.wrap (rd l0 0))), (0), zq25, zq25, H', ⟨Nat.le_refl _⟩, ⟨zq0⟩⟩
  case round =>
   clear H'
   try clear c1
   try clear p2
   try clear p3
   try clear q3
   try clear hx3
   try clear qi3
   try clear c5
   try clear p6
   try clear c7
   try clear c7b0
   try clear c7b1
   try clear c9
   try clear c9b0
   try clear c9b1
   try clear hx307_0
   try clear p307
   try clear q307
   obtain ⟨x4_1, x19_1, rfl, rfl, HA, HK1, HB⟩ := hrel
   cases gk with
   | zero => exact absurd HA.out (by simp [impl_GetInt.l0])
   | succ k1 =>
    have H := HA.out
    clear HA
    simp only [impl_GetInt.l0] at H
    have HC11 := zA H
    clear H
    go_upto_region 5 with (fail)
    have H := HC11.out
    clear HC11
    by_cases c12 : x19_1 < ((l0.drop 1).length : Int)
    ·rw [if_pos c12] at H
     have c12b0 : decide (x19_1 < ((l0.drop 1).length : Int)) = true := decide_eq_true c12
     (try (have c12bz := c12b0; rw [List.length_drop] at c12bz))
     clear c12
     have HC13 := zA H
     clear H
     go_upto_region 6 with (fail)
     have H := HC13.out
     clear HC13
     obtain ⟨c14, H⟩ := zN H
     have c14b0 : decide (0 ≤ x19_1) = true := decide_eq_true c14
     clear c14
     obtain ⟨c15, H⟩ := zN H
     have c15b0 : decide (x19_1 < ((l0.drop 1).length : Int)) = true := decide_eq_true c15
     (try (have c15bz := c15b0; rw [List.length_drop] at c15bz))
     clear c15
     have HC16 := zA H
     clear H
     have p309 : 0 ≤ (x19_1 : Int) := of_decide_eq_true zq17
     have q309 : x19_1 < ((l0.drop 1).length : Int) := of_decide_eq_true zq17
     obtain ⟨ad309, e309, hx309_0⟩ := Kd.at_int HR308.out x19_1 p309 q309
     cases e309
     replace hx309_0 := (HB.out.cell (World.block_lt_of_cell? w _ hx309_0)).trans hx309_0
     replace p309 := eq_true p309
     replace q309 := eq_true q309
     (try (have qz309 := q309; rw [List.length_drop] at qz309))
     go_upto_region 7 with (fail)
     have H := HC16.out
     clear HC16
     have HC17 := zA H
     clear H
     go_upto_region 8 with (fail)
     have H := HC17.out
     clear HC17
     have H' := zA H
     clear H
     go_wp2
     go_roundg k1
     case measure => have := HK1.out; omega
     case rel => exact ⟨(Go.bits .or .i64 (wrap64 (x4_1 * 256)) (wrap64 (rd (l0.drop 1) x19_1))), (wrap64 (x19_1 + 1)), zq25, zq25, H', ⟨zq190⟩, ⟨zq0⟩⟩
    ·rw [if_neg c12] at H
     have c12b0 : decide (x19_1 < ((l0.drop 1).length : Int)) = false := decide_eq_false c12
     (try (have c12bz := c12b0; rw [List.length_drop] at c12bz))
     clear c12
     have HC18 := zA H
     clear H
     go_upto_region 9 with (fail)
     have H := HC18.out
     clear HC18
     obtain ⟨t310, A19, H⟩ := zB H
     try dsimp only at H
     by_cases c20 : (t310.length : Int) = (l0.length : Int)
     ·rw [if_pos c20] at H
      have c20b0 : ((t310.length : Int) == (l0.length : Int)) = true := beq_iff_eq.mpr c20
      have c20b1 : ((t310.length : Int) != (l0.length : Int)) = false := bne_eq_false_iff_eq.mpr c20
      have c20b2 : (t310.length == l0.length) = true := by first | simpa using c20 | (simp at c20 ⊢; omega)
      clear c20
      have HC21 := zA H
      clear H
      go_upto_region 11 with (first | ((with_reducible refine gate_callee (f := 156) rfl ?_); refine goesL_ (some 30) rfl rfl Try.func156 (by kernel_rfl) rfl #[.int .i64 x4_1] rfl zq1 ?_; (with_reducible refine (impl_PutInt.calls k1 x4_1 t310 _ A19.out).mono ?_); rintro e w22 ⟨v311, rfl, ho0, hb⟩; refine ⟨_, rfl, ?_⟩; have HO312 := zA (Kd.R_lower ho0 (below_size zq0)); replace HB := zA (below_step zq0 hb); clear hb ho0; obtain ⟨Ao23, co23, eo23⟩ := Kd.R_slice HO312.out; subst eo23))
      (try simp only [Act.put, List.setIfInBounds_toArray, List.set_cons_zero, List.set_cons_succ])
      have H := HC21.out
      clear HC21
      simp only [Option.some.injEq, Prod.mk.injEq] at H
      obtain ⟨rfl, rfl⟩ := H
      go_wp2
      go_ret2
      exact ⟨zq5, zq0⟩
     ·rw [if_neg c20] at H
      have c20b0 : ((t310.length : Int) == (l0.length : Int)) = false := beq_eq_false_iff_ne.mpr c20
      have c20b1 : ((t310.length : Int) != (l0.length : Int)) = true := bne_iff_ne.mpr c20
      have c20b2 : (t310.length == l0.length) = false := by first | simpa using c20 | (simp at c20 ⊢; omega)
      have HC24 := zA H
      clear H
      go_upto_region 10 with (first | ((with_reducible refine gate_callee (f := 156) rfl ?_); refine goesL_ (some 30) rfl rfl Try.func156 (by kernel_rfl) rfl #[.int .i64 x4_1] rfl zq1 ?_; (with_reducible refine (impl_PutInt.calls k1 x4_1 t310 _ A19.out).mono ?_); rintro e w25 ⟨v311, rfl, ho0, hb⟩; refine ⟨_, rfl, ?_⟩; have HO312 := zA (Kd.R_lower ho0 (below_size zq0)); replace HB := zA (below_step zq0 hb); clear hb ho0; obtain ⟨Ao26, co26, eo26⟩ := Kd.R_slice HO312.out; subst eo26))
      (try simp only [Act.put, List.setIfInBounds_toArray, List.set_cons_zero, List.set_cons_succ])
      have H := HC24.out
      clear HC24
      simp only [Option.some.injEq, Prod.mk.injEq] at H
      obtain ⟨rfl, rfl⟩ := H
      go_wp2
      go_ret2
      exact ⟨zq5, zq0⟩
 ·replace c5 := Bool.eq_false_iff.mpr c5
  subst c5
  rw [if_neg zF] at H
  have HC27 := zA H
  clear H
  go_upto_region 2 with (first | ((with_reducible refine gate_callee (f := 122) rfl ?_); refine goesL_ (some 9) rfl rfl Try.func122 (by kernel_rfl) rfl #[.int .i64 (l0.length : Int), .int .i64 1, .int .i64 4] rfl zq1 ?_; (with_reducible refine (impl_in.calls (l0.length : Int) 1 4 false _ A4.out).mono ?_); rintro e w' ⟨rfl, ⟨nd, rfl⟩⟩; refine ⟨_, rfl, ?_⟩))
  (try simp only [Act.put, List.setIfInBounds_toArray, List.set_cons_zero, List.set_cons_succ])
  have H := HC27.out
  clear HC27
  simp only [Option.some.injEq, Prod.mk.injEq] at H
  obtain ⟨rfl, rfl⟩ := H
  go_wp2
  go_ret2
  exact ⟨zq5, zq0⟩

/-! ### impl_parts_num: function 113 -/
def impl_parts_num.f (k : Nat) (s0_0 : List Int) (s0_1 : Int) (s0_2 : Bool) (a1 : Int) : Option (Int × Int × Bool) := (impl_parts_part.f s0_0 s0_1 s0_2 a1).bind fun bt313 => ((impl_GetInt.f k bt313.1).bind fun bt318 => (if bt313.2.2 = true then (some (bt318.1, bt313.2.1, true)) else (some (bt318.1, bt313.2.1, !bt318.2))))
theorem impl_parts_num.mono : ∀ a0 a1 a2 a3 k, LeO (impl_parts_num.f k a0 a1 a2 a3) (impl_parts_num.f (k + 1) a0 a1 a2 a3) := by
 intro a0 a1 a2 a3 k
 unfold impl_parts_num.f
 have m0_ := @impl_GetInt.mono
 exact zR
set_option maxHeartbeats 8000000 in
set_option maxRecDepth 100000 in
theorem impl_parts_num.calls (k : Nat) (g : Nat) (s0_0 : List Int) (s0_1 : Int) (s0_2 : Bool) (a1 : Int) (r1 : Int) (r2 : Int) (r3 : Bool) (w0 w : World) (hI : IsS127 w0 w g s0_0 s0_1 s0_2) (hB : Below w0.heap.size w0 w) (h : impl_parts_num.f k s0_0 s0_1 s0_2 a1 = some (r1, r2, r3)) :
  Calls Try.prog 113 #[.pointer (some ⟨g, 0, none⟩), .int .i64 a1] w fun e w' => e = .returned (.int .i64 r1) ∧ IsS127 w0 w' g s0_0 r2 r3 ∧ Below w0.heap.size w0 w' ∧ KeepBut w w' g none := by
 have HI0 := zA hI
 have HK := zA (KeepBut.refl w g none)
 have HL := zA hB.size
 clear hI
 have HW0 := zA hB.size
 have HB := zA hB
 clear hB
 unfold impl_parts_num.f at h
 have H := h
 clear h
 have HC3 := zA H
 clear H
 go_enter Try.func113, Try.ntmps113
 go_upto_region 0 with (fail)
 have H := HC3.out
 clear HC3
 have HC4 := zA H
 clear H
 go_upto_region 1 with (fail)
 have H := HC4.out
 clear HC4
 obtain ⟨⟨t313, t316, t317⟩, A5, H⟩ := zB H
 try dsimp only at H
 obtain ⟨⟨t318, t319⟩, A6, H⟩ := zB H
 try dsimp only at H
 have HC7 := zA H
 clear H
 go_upto_region 2 with (first | ((with_reducible refine gate_callee (f := 114) rfl ?_); refine goesL_ (some 10) rfl rfl Try.func114 (by kernel_rfl) rfl #[.pointer (some ⟨g, 0, none⟩), .int .i64 a1] rfl zq1 ?_; (with_reducible refine (impl_parts_part.calls g s0_0 s0_1 s0_2 a1 t313 t316 t317 w0 _ ?side1 ?side2 A5.out).mono ?_); (case side1 => repeat (first | (with_reducible first | exact HI0.out | apply IsS127.alloc | apply IsS127.drewN | apply IsS127.drew | apply IsS127.set_1 | apply IsS127.set_2) | exact HI0.out)); (case side2 => repeat (first | (with_reducible first | exact HB.out | apply below_alloc | apply pw_below_drewN | apply below_drew1 | refine below_set ?_ (IsS127.ge HI0.out)) | exact HB.out)); rintro e w8 ⟨v314, rfl, ho0, hi, hb, hk⟩; refine ⟨_, rfl, ?_⟩; have HO315 := zA (Kd.R_lower ho0 (keep_size (w := w) (g := g) (row := none) zq3)); replace HK := zA (KeepBut.trans zq3 hk (.inl rfl)); replace HB := zA (hb); replace HI0 := zA (hi); clear hb hk hi ho0; obtain ⟨Ao9, co9, eo9⟩ := Kd.R_slice HO315.out; subst eo9) | ((with_reducible refine gate_callee (f := 170) rfl ?_); refine goesL_ (some 11) rfl rfl Try.func170 (by kernel_rfl) rfl #[.slice Ao9 t313.length co9] rfl zq1 ?_; (with_reducible refine (impl_GetInt.calls k _ _ t313 t318 t319 _ ?side1 ?side2 A6.out).mono ?_); (case side1 => repeat (first | exact (Kd.R_reads' HO315.out).2.2 | (with_reducible refine Kd.C_alloc ?_ _) | (with_reducible refine Kd.C_drewN ?_ _) | (with_reducible refine Kd.C_drew ?_))); (case side2 => exact (Kd.R_reads' HO315.out).2.1); rintro e w10 ⟨rfl, hb⟩; refine ⟨_, rfl, ?_⟩; replace HO315 := zA (Kd.R_below (by (with_reducible repeat (first | apply Kd.R_alloc | apply Kd.R_drewN | apply Kd.R_drew)); exact HO315.out) hb); replace HK := zA (KeepBut.trans zq3 (KeepBut.of_below hb g none) (.inl rfl)); replace HB := zA (below_step zq49 hb); replace HI0 := zA (IsS127.below zq51 hb); clear hb))
 (try simp only [Act.put, List.setIfInBounds_toArray, List.set_cons_zero, List.set_cons_succ])
 have H := HC7.out
 clear HC7
 by_cases c11 : t317 = true
 ·subst c11
  rw [if_pos rfl] at H
  have HC12 := zA H
  clear H
  obtain ⟨ASz13_0, cSz13_0, HGz13, hgz13, ⟨HSz13_0, HSKz13_0⟩⟩ := HI0.out
  have HSCz13_0 := zA HSKz13_0
  clear HSKz13_0
  have hcz13_0 := cellS127_0 HGz13
  have hcz13_1 := cellS127_1 HGz13
  have hcz13_2 := cellS127_2 HGz13
  have hfz13_1 := blk_frozen HGz13 1
  have hfz13_2 := blk_frozen HGz13 2
  clear HGz13 hgz13
  go_upto_region 3 with (fail)
  have H := HC12.out
  clear HC12
  simp only [Option.some.injEq, Prod.mk.injEq] at H
  obtain ⟨rfl, rfl, rfl⟩ := H
  go_wp2
  go_ret
  exact ⟨zq5, zq51, zq49, zq3⟩
 ·replace c11 := Bool.eq_false_iff.mpr c11
  subst c11
  rw [if_neg zF] at H
  have HC14 := zA H
  clear H
  obtain ⟨ASz15_0, cSz15_0, HGz15, hgz15, ⟨HSz15_0, HSKz15_0⟩⟩ := HI0.out
  have HSCz15_0 := zA HSKz15_0
  clear HSKz15_0
  have hcz15_0 := cellS127_0 HGz15
  have hcz15_1 := cellS127_1 HGz15
  have hcz15_2 := cellS127_2 HGz15
  have hfz15_1 := blk_frozen HGz15 1
  have hfz15_2 := blk_frozen HGz15 2
  clear HGz15 hgz15
  go_upto_region 3 with (fail)
  have H := HC14.out
  clear HC14
  simp only [Option.some.injEq, Prod.mk.injEq] at H
  obtain ⟨rfl, rfl, rfl⟩ := H
  go_wp2
  go_ret
  exact ⟨zq5, zq51, zq49, zq3⟩

/-! ### impl_parts_done: function 115 -/
def impl_parts_done.f (s0_0 : List Int) (s0_1 : Int) (s0_2 : Bool) : Option (Bool × Int × Bool) := if s0_2 = true then (some (false, s0_1, s0_2)) else (some ((s0_1 == (s0_0.length : Int)), s0_1, s0_2))
set_option maxHeartbeats 8000000 in
set_option maxRecDepth 100000 in
theorem impl_parts_done.calls (g : Nat) (s0_0 : List Int) (s0_1 : Int) (s0_2 : Bool) (r1 : Bool) (r2 : Int) (r3 : Bool) (w0 w : World) (hI : IsS127 w0 w g s0_0 s0_1 s0_2) (hB : Below w0.heap.size w0 w) (h : impl_parts_done.f s0_0 s0_1 s0_2 = some (r1, r2, r3)) :
  Calls Try.prog 115 #[.pointer (some ⟨g, 0, none⟩)] w fun e w' => e = .returned (.bool r1) ∧ IsS127 w0 w' g s0_0 r2 r3 ∧ Below w0.heap.size w0 w' ∧ KeepBut w w' g none := by
 have HI0 := zA hI
 have HK := zA (KeepBut.refl w g none)
 have HL := zA hB.size
 clear hI
 have HW0 := zA hB.size
 have HB := zA hB
 clear hB
 unfold impl_parts_done.f at h
 have H := h
 clear h
 have HC2 := zA H
 clear H
 go_enter Try.func115, Try.ntmps115
 go_upto_region 0 with (fail)
 repeat (go_quiet (fail); go_upto_region 0 with (fail))
 have H := HC2.out
 clear HC2
 have HC3 := zA H
 clear H
 go_upto_region 1 with (fail)
 repeat (go_quiet (fail); go_upto_region 1 with (fail))
 have H := HC3.out
 clear HC3
 by_cases c4 : s0_2 = true
 ·subst c4
  rw [if_pos rfl] at H
  simp only [Option.some.injEq, Prod.mk.injEq] at H
  obtain ⟨rfl, rfl, rfl⟩ := H
  obtain ⟨ASz5_0, cSz5_0, HGz5, hgz5, ⟨HSz5_0, HSKz5_0⟩⟩ := HI0.out
  have HSCz5_0 := zA HSKz5_0
  clear HSKz5_0
  have hcz5_0 := cellS127_0 HGz5
  have hcz5_1 := cellS127_1 HGz5
  have hcz5_2 := cellS127_2 HGz5
  have hfz5_1 := blk_frozen HGz5 1
  have hfz5_2 := blk_frozen HGz5 2
  clear HGz5 hgz5
  go_wp2
  repeat (go_quiet (fail); try go_wp2)
  go_ret
  exact ⟨zq5, zq51, zq49, zq3⟩
 ·replace c4 := Bool.eq_false_iff.mpr c4
  subst c4
  rw [if_neg zF] at H
  simp only [Option.some.injEq, Prod.mk.injEq] at H
  obtain ⟨rfl, rfl, rfl⟩ := H
  obtain ⟨ASz6_0, cSz6_0, HGz6, hgz6, ⟨HSz6_0, HSKz6_0⟩⟩ := HI0.out
  have HSCz6_0 := zA HSKz6_0
  clear HSKz6_0
  have hcz6_0 := cellS127_0 HGz6
  have hcz6_1 := cellS127_1 HGz6
  have hcz6_2 := cellS127_2 HGz6
  have hfz6_1 := blk_frozen HGz6 1
  have hfz6_2 := blk_frozen HGz6 2
  clear HGz6 hgz6
  go_wp2
  repeat (go_quiet (fail); try go_wp2)
  go_ret
  exact ⟨zq5, zq51, zq49, zq3⟩

end Go.Proofs.Ytkcgghgkmgbphaa.PFnFrames
