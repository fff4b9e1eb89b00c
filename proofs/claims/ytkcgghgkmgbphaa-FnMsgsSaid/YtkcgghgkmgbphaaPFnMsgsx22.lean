-- WRITTEN BY a turned copy of the kit's printer (wip/patch_print.py), for this claim
import Derived.Test.YtkcgghgkmgbphaaPFnMsgsx0
import Derived.Test.YtkcgghgkmgbphaaPFnMsgsx12
import Derived.Test.YtkcgghgkmgbphaaPFnMsgsx21
namespace Go.Proofs.Ytkcgghgkmgbphaa.PFnMsgs
open Go.RowKit Go.Proofs.YtkcgghgkmgbphaaW.PrintWords Go.Proofs.YtkcgghgkmgbphaaW.PrintLast Go.Proofs.YtkcgghgkmgbphaaW.PrintMore
attribute [local go_sem] max2_int min2_int max_two min_two max_three min_three max_four min_four   -- for this text's walks alone
set_option linter.unusedVariables false
set_option linter.unusedSimpArgs false
set_option maxHeartbeats 8000000
set_option maxRecDepth 100000

/-! ### impl_parts_done: function 115 -/
def impl_parts_done.f (s0_0 : List Int) (s0_1 : Int) (s0_2 : Bool) : Option (Bool × Int × Bool) := if s0_2 = true then (some (false, s0_1, s0_2)) else (some ((s0_1 == (s0_0.length : Int)), s0_1, s0_2))
theorem impl_parts_done.calls (g : Nat) (As0_0 : Option Addr) (cs0_0 : Nat) (s0_0 : List Int) (s0_1 : Int) (s0_2 : Bool) (r1 : Bool) (r2 : Int) (r3 : Bool) (w0 w : World) (hI : IsS127 w0 w g As0_0 cs0_0 s0_0 s0_1 s0_2) (hB : Below w0.heap.size w0 w) (h : impl_parts_done.f s0_0 s0_1 s0_2 = some (r1, r2, r3)) :
  Calls Try.prog 115 #[.pointer (some ⟨g, 0, none⟩)] w fun e w' => e = .returned (.bool r1) ∧ IsS127 w0 w' g As0_0 cs0_0 s0_0 r2 r3 ∧ Below w0.heap.size w0 w' ∧ KeepBut w w' g none := by
 have HI0 := zA hI
 have HK := zA (KeepBut.refl w g none)
 have HL := zA hB.size
 clear hI
 have HW0 := zA hB.size
 have HB := zA hB
 clear hB
 unfold impl_parts_done.f at h
 have H := zA h
 clear h
 go_enter Try.func115, Try.ntmps115
 go_upto_region 0 with fail
 go_upto_region 1 with fail
 replace H := zE H; rcases H with ⟨rfl, H⟩ | ⟨rfl, H⟩
 ·obtain ⟨rfl, rfl, rfl⟩ := zt3 H
  obtain ⟨ASz5_0, cSz5_0, HGz5, hgz5, ⟨HSz5_0, HSKz5_0⟩⟩ := HI0.out
  have HSCz5_0 := zA HSKz5_0
  clear HSKz5_0
  have hcz5_0 := cellS127_0 HGz5
  have hcz5_1 := cellS127_1 HGz5
  have hcz5_2 := cellS127_2 HGz5
  have hfz5_1 := blk_frozen HGz5 1
  have hfz5_2 := blk_frozen HGz5 2
  clear HGz5 hgz5
  iterate 2 (go_wp2; try go_quiet (fail))
  go_ret
  exact ⟨zq1, zq67, zq64, zq2⟩
 obtain ⟨rfl, rfl, rfl⟩ := zt3 H
 obtain ⟨ASz6_0, cSz6_0, HGz6, hgz6, ⟨HSz6_0, HSKz6_0⟩⟩ := HI0.out
 have HSCz6_0 := zA HSKz6_0
 clear HSKz6_0
 have hcz6_0 := cellS127_0 HGz6
 have hcz6_1 := cellS127_1 HGz6
 have hcz6_2 := cellS127_2 HGz6
 have hfz6_1 := blk_frozen HGz6 1
 have hfz6_2 := blk_frozen HGz6 2
 clear HGz6 hgz6
 iterate 2 (go_wp2; try go_quiet (fail))
 go_ret
 exact ⟨zq1, zq67, zq64, zq2⟩
/-- The same of a variable in memory, told by its cells. -/
theorem impl_parts_done.callsB (g : Nat) (As0_0 : Option Addr) (cs0_0 : Nat) (s0_0 : List Int) (s0_1 : Int) (s0_2 : Bool) (r1 : Bool) (r2 : Int) (r3 : Bool) (w0 w : World) (hb : w.heap[g]? = some (.cells #[.slice As0_0 s0_0.length cs0_0, .int .i64 s0_1, .bool s0_2] 127 (0, 0))) (hC0 : Kd.C (Kd.int .u8) w As0_0 s0_0.length s0_0) (hc0 : s0_0.length ≤ cs0_0) (hl0 : ∀ k_, (Value.slice As0_0 s0_0.length cs0_0).ownBlock = some k_ → k_ < g) (hB : Below w0.heap.size w0 w) (hg : w0.heap.size ≤ g) (h : impl_parts_done.f s0_0 s0_1 s0_2 = some (r1, r2, r3)) :
  Calls Try.prog 115 #[.pointer (some ⟨g, 0, none⟩)] w fun e w' => e = .returned (.bool r1) ∧ w'.heap[g]? = some (.cells #[.slice As0_0 s0_0.length cs0_0, .int .i64 r2, .bool r3] 127 (0, 0)) ∧ Below w0.heap.size w0 w' ∧ KeepBut w w' g none := by
 refine (impl_parts_done.calls g As0_0 cs0_0 s0_0 s0_1 s0_2 r1 r2 r3 (truncW w g) w ⟨_, _, hb, ⟨Nat.le_of_eq (truncW_size (Nat.le_of_lt (blk_lt hb))), rfl, rfl⟩, ⟨C_truncW hC0 hl0, hc0⟩⟩ (truncW_below (Nat.le_of_lt (blk_lt hb))) h).mono ?_
 rintro e w' ⟨rfl, ⟨A0_, c0_, hb', ⟨_, rfl, rfl⟩, _⟩, hB', hk⟩
 exact ⟨rfl, hb', truncW_done hB hg hB' hk, hk⟩

/-! ### impl_GetOid: function 171 -/
def impl_GetOid.l0 : Nat → List Int → List Int → Int → List Int → Int → Int → Option (List Int × Bool)
 | 0, _, _, _, _, _, _ => none
 | k + 1, x0, x4, x5, x9, x10, x11 => if x11 < x10 then (if 0 ≤ x11 then (if x11 < (x9.length : Int) then (if x11 ≥ 40 then (some (([] : List Int), false)) else (if (rd x9 x11) < 128 then (if x4.length < 17592186044416 then (impl_GetOid.l0 k x0 (x4 ++ [Go.bits .or .i64 (wrap64 ((mn x5 1048576) * 128)) (wrap64 (Go.bits .and .u8 (rd x9 x11) 127))]) 0 x9 x10 (wrap64 (x11 + 1))) else (none)) else (impl_GetOid.l0 k x0 x4 (Go.bits .or .i64 (wrap64 ((mn x5 1048576) * 128)) (wrap64 (Go.bits .and .u8 (rd x9 x11) 127))) x9 x10 (wrap64 (x11 + 1))))) else (none)) else (none)) else ((impl_PutOid.f k x4).bind fun t763 => (if (t763.length : Int) = 0 then (some (([] : List Int), false)) else (if (strOfNums t763).toList = (strOfNums x0).toList then (some (x4, true)) else (some (([] : List Int), false)))))
def impl_GetOid.f (k : Nat) (l0 : List Int) : Option (List Int × Bool) := impl_GetOid.l0 k l0 ([] : List Int) 0 l0 (l0.length : Int) 0
theorem impl_GetOid.mono_l : ∀ k, (∀ y0 y1 y2 y3 y4 y5, LeO (impl_GetOid.l0 k y0 y1 y2 y3 y4 y5) (impl_GetOid.l0 (k + 1) y0 y1 y2 y3 y4 y5))
 | 0 => fun _ _ _ _ _ _ r h => by simp [impl_GetOid.l0] at h
 | k + 1 => by
  have ih0 := impl_GetOid.mono_l k
  ·intro y0 y1 y2 y3 y4 y5
   unfold impl_GetOid.l0
   have m0_ := @impl_PutOid.mono
   exact zR
theorem impl_GetOid.mono : ∀ a0 k, LeO (impl_GetOid.f k a0) (impl_GetOid.f (k + 1) a0) := by
 intro a0 k
 have ih0 := impl_GetOid.mono_l k
 unfold impl_GetOid.f
 have m0_ := @impl_PutOid.mono
 exact zR
theorem impl_GetOid.calls (k : Nat) (A0 : Option Addr) (c0 : Nat) (l0 : List Int) (r1 : List Int) (r2 : Bool) (w : World) (hr0 : Kd.C (Kd.int .u8) w A0 l0.length l0) (hc0 : l0.length ≤ c0) (h : impl_GetOid.f k l0 = some (r1, r2)) :
  Calls Try.prog 171 #[.slice A0 l0.length c0] w fun e w' => ∃ v0_ : Value, e = .returned (.tuple #[v0_, .bool r2]) ∧ Kd.R (Kd.int .i64) 3 w' w.heap.size (fun _ => True) v0_ r1 ∧ Below w.heap.size w w' := by
 have HR0 := zA hr0
 have HC0 := zA hc0
 clear hr0 hc0
 have HB := zA (Below.refl w.heap.size w)
 unfold impl_GetOid.f at h
 have H := zA h
 clear h
 go_enter Try.func171, Try.ntmps171
 go_upto_region 0 with fail
 go_upto_region 1 with fail
 go_upto_region 2 with fail
 go_upto_region 3 with fail
 have H' := H; clear H
 go_wp2
 go_loopg [4, 5, 11] k (fun kq v4 v5 v11 w' => ∃ (x4_1 : List Int) (x5_1 : Int) (x11_1 : Int), v5 = .int .i64 x5_1 ∧ v11 = .int .i64 x11_1 ∧ Aside0 (impl_GetOid.l0 kq l0 x4_1 x5_1 l0 (l0.length : Int) x11_1 = some (r1, r2)) ∧ Aside0 (kq ≤ k) ∧ Aside0 (Kd.R (Kd.int .i64) 3 w' w.heap.size (fun _ => True) v4 x4_1) ∧ Aside0 (Below w.heap.size w w'))
 case atStart => exact ⟨(([] : List Int)), (0), (0), zq15, zq15, H', ⟨Nat.le_refl _⟩, ⟨zq7⟩, ⟨zq0⟩⟩
 case round =>
  clear H'
  try clear c1
  try clear p2
  obtain ⟨x4_1, x5_1, x11_1, rfl, rfl, HA, HK1, HO_4, HB⟩ := hrel
  cases gk with
  | zero => exact absurd HA.out (by simp [impl_GetOid.l0])
  | succ k1 =>
   have H := HA
   clear HA
   simp only [impl_GetOid.l0] at H
   go_upto_region 4 with fail
   replace H := zPd H; rcases H with ⟨c7b0, H⟩ | ⟨c7b0, H⟩
   ·go_upto_region 5 with fail
    replace H := zNd H; obtain ⟨c9b0, H⟩ := H
    replace H := zNd H; obtain ⟨c10b0, H⟩ := H
    have p766 : 0 ≤ (x11_1 : Int) := of_decide_eq_true zq13
    have q766 : x11_1 < (l0.length : Int) := of_decide_eq_true zq13
    obtain ⟨ad766, e766, hx766_0⟩ := Kd.at_int HR0.out x11_1 p766 q766
    cases e766
    replace hx766_0 := zcl HB.out hx766_0
    replace p766 := eq_true p766
    replace q766 := eq_true q766
    go_upto_region 6 with fail
    replace H := zPd H; rcases H with ⟨c12b0, H⟩ | ⟨c12b0, H⟩
    ·go_upto_region 7 with fail
     obtain ⟨rfl, rfl⟩ := zt2 H
     go_wp2
     go_ret2
     exact ⟨_, zq1, zq7, zq0⟩
    go_upto_region 8 with fail
    obtain ⟨ji15, hji15⟩ : ∃ j_ : Int, (mn x5_1 1048576) = j_ := ⟨_, rfl⟩
    replace H : Aside0 ((if (rd l0 x11_1) < 128 then (if x4_1.length < 17592186044416 then (impl_GetOid.l0 k1 l0 (x4_1 ++ [Go.bits .or .i64 (wrap64 ((ji15) * 128)) (wrap64 (Go.bits .and .u8 (rd l0 x11_1) 127))]) 0 l0 (l0.length : Int) (wrap64 (x11_1 + 1))) else (none)) else (impl_GetOid.l0 k1 l0 x4_1 (Go.bits .or .i64 (wrap64 ((ji15) * 128)) (wrap64 (Go.bits .and .u8 (rd l0 x11_1) 127))) l0 (l0.length : Int) (wrap64 (x11_1 + 1)))) = some (r1, r2)) := by first | (rw [hji15] at H; exact H) | (simp only [hji15] at H ⊢; exact H)
    have hji15_ : (if 1048576 < x5_1 then 1048576 else x5_1) = ji15 := hji15
    go_upto_region 9 with fail
    replace H := zPd H; rcases H with ⟨c17b0, H⟩ | ⟨c17b0, H⟩
    ·go_upto_region 10 with fail
     replace H := zN H; obtain ⟨c19, H⟩ := H
     have LMc19 := zA c19
     clear c19
     obtain ⟨y767, hy767⟩ : ∃ y_ : List Int, y_ = (x4_1 ++ [Go.bits .or .i64 (wrap64 ((ji15) * 128)) (wrap64 (Go.bits .and .u8 (rd l0 x11_1) 127))]) := ⟨_, rfl⟩
     rw [← hy767] at H
     have Ny767 := zA hy767
     clear hy767
     go_upto_region 11 with (first | ((with_reducible refine gate_builtin (b := .append) (xs := #[.tmp 27, .tmp 29]) rfl ?_); at_builtin; refine Kd.R_append (Kd.int .i64) (w0 := w) w.heap.size rfl (.tmp 27) (.tmp 29) 71 3 (.int .i64 0) 8 rfl Try.underlying71 info3 rfl zq52 zq183 u4 x4_1 (Go.bits .or .i64 (wrap64 ((ji15) * 128)) (wrap64 (Go.bits .and .u8 (rd l0 x11_1) 127))) [.int .i64 (Go.bits .or .i64 (wrap64 ((ji15) * 128)) (wrap64 (Go.bits .and .u8 (rd l0 x11_1) 127)))] (fun _ => True) (fun _ => False) rfl rfl ?aP (fun _ hk => hk.elim) ?aF ?aO ?aB ?aS ?aL ?_; (case aP => exact rfl); (case aB => exact zq0); (case aF => exact (fun _ _ => trivial)); (case aO => exact (zrk HO_4.out)); (case aS => exact (below_size zq0)); (case aL => have := LMc19.out; omega); intro v768 w21 ho hb hg hat; rw [← Ny767.out] at ho; replace HB := zA (hb); have HO769 := zA (ho); clear HO_4; clear ho hb hg hat))
     (try simp only [zvs])
     (try (rw [drewN_self w21]; generalize hq_ : World.drewN w21 _ = w21; replace HO769 := zA (Kd.R_at hq_ HO769.out); replace HB := zA (below_at hq_ HB.out); clear hq_))
     go_upto_region 12 with fail
     have H' := H; clear H
     go_wp2
     go_roundg k1
     case measure => have := HK1.out; omega
     case rel => exact ⟨(y767), (0), (wrap64 (x11_1 + 1)), zq15, zq15, H', ⟨zq182⟩, ⟨(zrk HO769.out)⟩, ⟨zq0⟩⟩
    go_upto_region 12 with fail
    have H' := H; clear H
    go_wp2
    go_roundg k1
    case measure => have := HK1.out; omega
    case rel => exact ⟨(x4_1), (Go.bits .or .i64 (wrap64 ((ji15) * 128)) (wrap64 (Go.bits .and .u8 (rd l0 x11_1) 127))), (wrap64 (x11_1 + 1)), (by first | rfl | (simp; done) | (simp only [← hji15] <;> (first | rfl | simp)) | (simp [*]; done)), zq15, H', ⟨zq182⟩, ⟨(zrk HO_4.out)⟩, ⟨zq0⟩⟩
   go_upto_region 13 with fail
   replace H := zB H; obtain ⟨t763, A25, H⟩ := H
   try dsimp only at H
   obtain ⟨Ao27, co27, eo27⟩ := Kd.R_slice HO_4.out
   subst eo27
   go_upto_region 14 with (first | ((with_reducible refine zg108 rfl ?_); refine zl108 (some 33) #[.slice Ao27 x4_1.length co27] ?_; (with_reducible refine (impl_PutOid.calls k1 _ _ x4_1 t763 _ ?side1 ?side2 A25.out).mono ?_); (case side1 => exact (zck (Kd.R_reads' HO_4.out).2.2)); (case side2 => exact (Kd.R_reads' HO_4.out).2.1); rintro e w28 ⟨v764, rfl, ho0, hb⟩; refine ⟨_, rfl, ?_⟩; replace HO_4 := zA (Kd.R_below (zrk HO_4.out) hb); have HO765 := zA (Kd.R_lower ho0 (below_size zq0)); replace HB := zA (below_step zq0 hb); clear hb ho0))
   (try simp only [zvs])
   replace H := zP H; rcases H with ⟨c29, H⟩ | ⟨c29, H⟩
   ·have c29b0 : ((t763.length : Int) == 0) = true := beq_iff_eq.mpr c29
    have c29b1 : ((t763.length : Int) != 0) = false := bne_eq_false_iff_eq.mpr c29
    clear c29
    obtain ⟨Ao31, co31, eo31⟩ := Kd.R_slice HO765.out
    subst eo31
    go_upto_region 15 with fail
    obtain ⟨rfl, rfl⟩ := zt2 H
    go_wp2
    go_ret2
    exact ⟨_, zq1, zq7, zq0⟩
   have c29b0 : ((t763.length : Int) == 0) = false := beq_eq_false_iff_ne.mpr c29
   have c29b1 : ((t763.length : Int) != 0) = true := bne_iff_ne.mpr c29
   have c29b2 : ¬ (t763 = []) := fun h_ => c29 (by rw [h_]; rfl)
   replace H := zP H; rcases H with ⟨c32, H⟩ | ⟨c32, H⟩
   ·have c32b0 : ((strOfNums t763).toList == (strOfNums l0).toList) = true := beq_iff_eq.mpr c32
    have c32b1 : ((strOfNums t763).toList != (strOfNums l0).toList) = false := bne_eq_false_iff_eq.mpr c32
    clear c32
    obtain ⟨Ao34, co34, eo34⟩ := Kd.R_slice HO765.out
    subst eo34
    have hcv35 := own_string (P := Try.prog) Try.underlying22 Try.underlying5 Try.underlying9 (Kd.own_of_R HO765.out)
    have hcv36 := Kd.C_string (P := Try.prog) (A := A0) (c := c0) Try.underlying22 Try.underlying5 Try.underlying9 (Kd.C_below HR0.out HB.out)
    go_upto_region 16 with fail
    obtain ⟨rfl, rfl⟩ := zt2 H
    go_wp2
    go_ret2
    exact ⟨_, zq1, (zrk HO_4.out), zq0⟩
   have c32b0 : ((strOfNums t763).toList == (strOfNums l0).toList) = false := beq_eq_false_iff_ne.mpr c32
   have c32b1 : ((strOfNums t763).toList != (strOfNums l0).toList) = true := bne_iff_ne.mpr c32
   obtain ⟨Ao38, co38, eo38⟩ := Kd.R_slice HO765.out
   subst eo38
   have hcv39 := own_string (P := Try.prog) Try.underlying22 Try.underlying5 Try.underlying9 (Kd.own_of_R HO765.out)
   have hcv40 := Kd.C_string (P := Try.prog) (A := A0) (c := c0) Try.underlying22 Try.underlying5 Try.underlying9 (Kd.C_below HR0.out HB.out)
   go_upto_region 15 with fail
   obtain ⟨rfl, rfl⟩ := zt2 H
   go_wp2
   go_ret2
   exact ⟨_, zq1, zq7, zq0⟩

end Go.Proofs.Ytkcgghgkmgbphaa.PFnMsgs
