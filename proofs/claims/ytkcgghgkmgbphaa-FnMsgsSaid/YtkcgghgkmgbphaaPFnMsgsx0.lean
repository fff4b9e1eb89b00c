-- WRITTEN BY a turned copy of the kit's printer (wip/patch_print.py), for this claim
import Derived.Test.YtkcgghgkmgbphaaProg
import Derived.Below
import Derived.Deep.Draws
import Derived.Deep.AppendLies
import Derived.Maps.AppendAt
import Derived.OwnWalk
import Derived.Laws.BytesArg
import Derived.Laws.MakeOwn
import Derived.Laws.OwnMore
import Derived.Deep.OwnRows
import Derived.Tactics
import Derived.Lib.ConvBytes
import Derived.Laws.Slices
import Derived.WalkKit
import Derived.KernelRfl
import Derived.RowKit3
import Derived.Deep.LoopGhost
import Derived.Deep.QuietTactic
import Derived.BigQuiet
import Derived.WideLaws
import Derived.Deep.DeepCutAuto
import Derived.Deep.CutBlock
import Derived.Deep.RegionHeld3
import Derived.Laws.Rows
import Derived.Lib.AppendStr
import Derived.ArgAppend
import Derived.Laws.IdiomCopy
import Derived.OrdersHeld
import Derived.Laws.BitsLemmas
import Derived.RowKit
import Derived.Test.YtkcgghgkmgbphaaVFnMsgs0
namespace Go.Proofs.Ytkcgghgkmgbphaa.PFnMsgs
open Go.RowKit Go.Proofs.YtkcgghgkmgbphaaW.PrintWords Go.Proofs.YtkcgghgkmgbphaaW.PrintLast Go.Proofs.YtkcgghgkmgbphaaW.PrintMore
attribute [local go_sem] max2_int min2_int max_two min_two max_three min_three max_four min_four   -- for this text's walks alone
set_option linter.unusedVariables false
set_option linter.unusedSimpArgs false



def errW : Option Int → Value
  | none => .nilIface
  | some c => .iface 0 (.int .i64 c)
theorem errW_none : errW none = .nilIface := rfl
theorem errW_some (c : Int) : errW (some c) = .iface 0 (.int .i64 c) := rfl

/-- The world with its first blocks alone. -/
def truncW (w : World) (g : Nat) : World := { w with heap := w.heap.extract 0 g }
theorem truncW_size {w : World} {g : Nat} (h : g ≤ w.heap.size) : (truncW w g).heap.size = g := by
  show (w.heap.extract 0 g).size = g
  rw [Array.size_extract]; omega
theorem truncW_at {w : World} {g i : Nat} (hi : i < g) : (truncW w g).heap[i]? = w.heap[i]? := by
  show (w.heap.extract 0 g)[i]? = w.heap[i]?
  rw [Array.getElem?_extract]
  by_cases h : i < w.heap.size
  · rw [if_pos (by omega)]; congr 1; omega
  · rw [if_neg (by omega), Array.getElem?_eq_none (by omega)]
theorem truncW_below {w : World} {g : Nat} (h : g ≤ w.heap.size) : Below (truncW w g).heap.size (truncW w g) w :=
  ⟨rfl, rfl, rfl, by rw [truncW_size h]; exact h, fun k hk => (truncW_at (by rw [truncW_size h] at hk; exact hk)).symm⟩
theorem C_truncW {w : World} {g : Nat} {A : Option Addr} {n c : Nat} {xs : List Int} (hC : (Kd.int .u8).C w A n xs) (hl : ∀ k_, (Value.slice A n c).ownBlock = some k_ → k_ < g) : (Kd.int .u8).C (truncW w g) A n xs := by
  refine ⟨hC.1, hC.2.1, fun hn => ?_⟩
  obtain ⟨ad, e1, h2⟩ := hC.2.2 hn
  refine ⟨ad, e1, fun j p hp => ?_⟩
  obtain ⟨cs, c1, c2, c3⟩ := h2 j p hp
  refine ⟨cs, c1, c2, fun i u hu => ?_⟩
  have := c3 i u hu
  subst e1
  have hb : ∀ m, (ad.add m).block = ad.block := fun m => by simp only [Addr.add]; split <;> rfl
  have hg : ad.block < g := hl _ (by simp [Value.ownBlock])
  unfold World.cell? at this ⊢
  rw [hb] at this ⊢
  rw [truncW_at hg]; exact this
theorem truncW_done {w0 w w1 : World} {g : Nat} (hB : Below w0.heap.size w0 w) (hg : w0.heap.size ≤ g) (hB1 : Below (truncW w g).heap.size (truncW w g) w1) (hk : KeepBut w w1 g none) : Below w0.heap.size w0 w1 :=
  ⟨hB1.os.trans hB.os, hB1.tape.trans hB.tape, hB1.output.trans hB.output, Nat.le_trans hB.size hk.1, fun k hlt => (hk.2 k (Nat.lt_of_lt_of_le hlt hB.size) (by omega) (by simp)).trans (hB.block k hlt)⟩

theorem conv_below (w : World) (e : TypeId) (s : ByteArray) : Below w.heap.size w (Lib.bytesWorld w e s) := ⟨rfl, rfl, rfl, by rw [Lib.bytesWorld_size]; omega, fun k hk => Lib.bytesWorld_at_old w e s k hk⟩
theorem conv_grown (w : World) (e : TypeId) (s : ByteArray) (row : Option Nat) : w.grownBy (Lib.bytesWorld w e s) row := ⟨rfl, rfl, rfl, by rw [Lib.bytesWorld_size]; omega, fun k hk _ => Lib.bytesWorld_at_old w e s k hk⟩
theorem bytesOf_length (s : ByteArray) : (bytesOf s).length = s.size := by unfold bytesOf; rw [List.length_map]; rfl
theorem conv_C (w : World) (e : TypeId) (s : ByteArray) (hm : s.size ≤ 9223372036854775807) : (Kd.int .u8).C (Lib.bytesWorld w e s) (some ⟨w.heap.size, 0, none⟩) (bytesOf s).length (bytesOf s) := by
  refine ⟨rfl, by rw [bytesOf_length]; exact hm, fun _ => ⟨_, rfl, fun j p hp => ⟨[.int .u8 p], rfl, rfl, fun i u hu => ?_⟩⟩⟩
  have hj : j < s.size := by rw [← bytesOf_length]; exact (List.getElem?_eq_some_iff.1 hp).1
  have hi : i = 0 := by
    have := (List.getElem?_eq_some_iff.1 hu).1
    simpa using this
  subst hi
  have := Lib.bytesWorld_cell w e s j hj
  have e1 : (⟨w.heap.size, 0, none⟩ : Addr).add (j * (Kd.int .u8).sz + 0) = ⟨w.heap.size, j, none⟩ := by
    rw [show (Kd.int .u8).sz = 1 from rfl]
    simp only [Addr.add]; split <;> simp <;> omega
  rw [e1, this]
  have hp2 : p = ((s.data.toList.getD j 0).toNat : Int) := by
    unfold bytesOf at hp
    rw [List.getElem?_map] at hp
    cases hq : s.data.toList[j]? with
    | none => rw [hq] at hp; simp at hp
    | some b => rw [hq] at hp; simp at hp; rw [List.getD_eq_getElem?_getD, hq]; exact hp.symm
  simp at hu
  rw [← hu, hp2]
theorem V_conv {P : Program} {ops : Array Oper} {rest : List Oper} {o : Oper} {a : Act} {Q : Exit → Act → World → Prop} {w0 W : World} (base : Nat) (hgd : o.guard = none) {N : Tmp} (_hd : o.dst = some N) (x : Operand) (src dst e : TypeId) {u : TypeDesc} (ho : o.op = .convert src dst x) (hs : P.underlying src = some u) (hds : P.underlying dst = some (.slice e)) (he : P.underlying e = some (.int .u8)) (s : ByteArray) (hx : a.eval x = .string s) {ok : Nat → Prop} (hfresh : ok W.heap.size) (hm : s.size ≤ 140737488355328) (HB : Below base w0 W) (hbase : base ≤ W.heap.size)
    (h : ∀ v1 w1, Kd.V (Kd.int .u8) e w1 base ok v1 (bytesOf s) → Below base w0 w1 → W.grownBy w1 none → (∃ b, v1.ownBlock = some b ∧ W.heap.size ≤ b) → wpList P ops Q rest (a.put o.dst v1) w1) : wpList P ops Q (o :: rest) a W := by
  have hrun : (execOp a.eval o).run P W = .ok (.value (.slice (some ⟨W.heap.size, 0, none⟩) s.size (grownCap W s.size 0 e))) (Lib.bytesWorld W e s) := by
    unfold execOp
    rw [ho]
    simp only [hx]
    have := Lib.run_convert_string_bytes (P := P) W src dst e s hs hds he
    simp [this, Result.andThen]
  refine Kd.event_run hgd hrun (h _ _ ⟨some ⟨W.heap.size, 0, none⟩, grownCap W s.size 0 e, ?_, ?_, ?_⟩ ⟨(conv_below W e s).os.trans HB.os, (conv_below W e s).tape.trans HB.tape, (conv_below W e s).output.trans HB.output, Nat.le_trans HB.size (conv_below W e s).size, fun k hk => ((conv_below W e s).block k (by omega)).trans (HB.block k hk)⟩ (conv_grown W e s none) ⟨W.heap.size, by simp [Value.ownBlock], Nat.le_refl _⟩)
  · rw [bytesOf_length]
  · rw [bytesOf_length]; exact grownCap_ge _ _ _ _
  · intro W' hW'
    have hC := conv_C W e s (by omega)
    have hk : W'.heap[W.heap.size]? = (Lib.bytesWorld W e s).heap[W.heap.size]? := hW' _ hfresh (by rw [Lib.bytesWorld_size]; omega)
    refine ⟨hC.1, hC.2.1, fun hn => ?_⟩
    obtain ⟨ad, e1, h2⟩ := hC.2.2 hn
    refine ⟨ad, e1, fun j p hp => ?_⟩
    obtain ⟨c, c1, c2, c3⟩ := h2 j p hp
    refine ⟨c, c1, c2, fun i u hu => ?_⟩
    have := c3 i u hu
    injection e1 with e1
    subst e1
    have hb : ∀ n, ((⟨W.heap.size, 0, none⟩ : Addr).add n).block = W.heap.size := fun n => by simp only [Addr.add]; split <;> rfl
    unfold World.cell? at this ⊢
    rw [hb] at this ⊢
    rw [hk]; exact this

theorem cell_setCell_m (w : World) (a : Addr) (v : Value) : (w.setCell a v).cell? a = match w.cell? a with | some _ => some v | none => none := by
  cases h : w.cell? a with
  | none =>
    unfold World.cell? at h ⊢
    unfold World.setCell
    simp only [Array.getElem?_modify]
    cases hb : w.heap[a.block]? with
    | none => simp
    | some o =>
      rw [hb] at h
      cases o <;> simp at h ⊢
      by_cases hs : a.spot.isSome = true
      · simp [hs]; intro hn; simp [hn] at hs
      · simp [hs] at h ⊢; first | omega | exact h
  | some u => exact World.cell?_setCell_same _ _ _ h

theorem info3 : (Try.prog.info? 3).map (fun i => (i.zero, i.size, i.bytes)) = some (some (.int .i64 0), 1, 8) := by kernel_rfl
theorem info5 : (Try.prog.info? 5).map (fun i => (i.zero, i.size, i.bytes)) = some (some (.int .u8 0), 1, 1) := by kernel_rfl
theorem info9 : (Try.prog.info? 9).map (fun i => (i.zero, i.size, i.bytes)) = some (some (.string ⟨#[]⟩), 1, 16) := by kernel_rfl
theorem info116 : (Try.prog.info? 116).map (fun i => (i.zero, i.size, i.bytes)) = some (some (.agg #[(.slice none 0 0), (.int .i64 0), (.int .i64 0), (.string ⟨#[]⟩), (.slice none 0 0)]), 5, 80) := by kernel_rfl
-- the values' own types
def rd_L2 (xs : List (List Int)) (i : Int) : (List Int) := xs.getD i.toNat ([] : List Int)
theorem at_L2 {w : World} {A : Option Addr} {n : Nat} {xs : List (List Int)} (h : Kd.C (Kd.slice 3 (Kd.int .i64)) w A n xs) (i : Int) (h0 : 0 ≤ i) (h1 : i < n) : ∃ ad A0 c0, A = some ad ∧ w.cell? (ad.add i.toNat) = some (.slice A0 (rd_L2 xs i).length c0) ∧ (rd_L2 xs i).length ≤ c0 ∧ (Kd.int .i64).C w A0 (rd_L2 xs i).length (rd_L2 xs i) := by
  obtain ⟨ad, c, e, _, hK, hc0⟩ := Kd.C_get h ([] : List Int) i h0 h1
  have hc : ∀ j u, c[j]? = some u → w.cell? (ad.add (i.toNat * 1 + j)) = some u := hc0
  obtain ⟨A0, c0, rfl, l0, g0⟩ := hK
  exact ⟨ad, A0, c0, e, by have hq := hc 0 _ rfl; rwa [Nat.mul_one, Nat.add_zero] at hq, l0, g0⟩

/-! #### struct type 76 -/
structure S76 where
  f0 : Int
  f1 : Int
  f2 : ByteArray
  f3 : (List Int)
def z76 : S76 := ⟨(0 : Int), (0 : Int), (⟨#[]⟩ : ByteArray), ([] : List Int)⟩
def k76 : Kd S76 := Kd.iso (Kd.pair (Kd.int .i64) (Kd.pair (Kd.int .i64) (Kd.pair Kd.string (Kd.slice 3 (Kd.int .i64))))) (fun x : S76 => (x.f0, x.f1, x.f2, x.f3))
theorem k76_open {w : World} {x : S76} {cs : List Value} (h : k76.K w x cs) : ∃ A3 c3, cs = [.int .i64 x.f0, .int .i64 x.f1, .string x.f2, .slice A3 x.f3.length c3] ∧ x.f3.length ≤ c3 ∧ (Kd.int .i64).C w A3 x.f3.length x.f3 := by
  obtain ⟨_, _, rfl, rfl, ⟨_, _, rfl, rfl, ⟨_, _, rfl, rfl, ⟨A3, c3, rfl, l3, g3⟩⟩⟩⟩ := h
  exact ⟨A3, c3, rfl, l3, g3⟩
theorem k76_openM {w : World} {base : Nat} {ok : Nat → Prop} {x : S76} {cs : List Value} (h : k76.M w base ok x cs) : ∃ v3, cs = [.int .i64 x.f0, .int .i64 x.f1, .string x.f2, v3] ∧ (Kd.int .i64).R 3 w base ok v3 x.f3 := by
  obtain ⟨_, _, rfl, rfl, ⟨_, _, rfl, rfl, ⟨_, _, rfl, rfl, ⟨v3, rfl, g3⟩⟩⟩⟩ := h
  exact ⟨v3, rfl, g3⟩
theorem k76_mk (w : World) (x : S76) {A3 : Option Addr} {c3 : Nat} (l3 : x.f3.length ≤ c3) (g3 : (Kd.int .i64).C w A3 x.f3.length x.f3) : k76.K w x [.int .i64 x.f0, .int .i64 x.f1, .string x.f2, .slice A3 x.f3.length c3] := ⟨[.int .i64 x.f0], [.int .i64 x.f1, .string x.f2, .slice A3 x.f3.length c3], rfl, rfl, ⟨[.int .i64 x.f1], [.string x.f2, .slice A3 x.f3.length c3], rfl, rfl, ⟨[.string x.f2], [.slice A3 x.f3.length c3], rfl, rfl, ⟨A3, c3, rfl, l3, g3⟩⟩⟩⟩
theorem k76_mkM (w : World) (base : Nat) (ok : Nat → Prop) (x : S76) {v3 : Value} (g3 : (Kd.int .i64).R 3 w base ok v3 x.f3) : k76.M w base ok x [.int .i64 x.f0, .int .i64 x.f1, .string x.f2, v3] := ⟨[.int .i64 x.f0], [.int .i64 x.f1, .string x.f2, v3], rfl, rfl, ⟨[.int .i64 x.f1], [.string x.f2, v3], rfl, rfl, ⟨[.string x.f2], [v3], rfl, rfl, ⟨v3, rfl, g3⟩⟩⟩⟩
def rd_T76 (xs : List S76) (i : Int) : S76 := xs.getD i.toNat z76
theorem at_T76 {w : World} {A : Option Addr} {n : Nat} {xs : List S76} (h : Kd.C k76 w A n xs) (i : Int) (h0 : 0 ≤ i) (h1 : i < n) : ∃ ad A3 c3, A = some ad ∧ w.cell? (ad.add (i.toNat * 4)) = some (.int .i64 (rd_T76 xs i).f0) ∧ w.cell? ⟨(ad.add (i.toNat * 4)).block, (ad.add (i.toNat * 4)).off + 1, none⟩ = some (.int .i64 (rd_T76 xs i).f1) ∧ w.cell? ⟨(ad.add (i.toNat * 4)).block, (ad.add (i.toNat * 4)).off + 2, none⟩ = some (.string (rd_T76 xs i).f2) ∧ w.cell? ⟨(ad.add (i.toNat * 4)).block, (ad.add (i.toNat * 4)).off + 3, none⟩ = some (.slice A3 (rd_T76 xs i).f3.length c3) ∧ (rd_T76 xs i).f3.length ≤ c3 ∧ (Kd.int .i64).C w A3 (rd_T76 xs i).f3.length (rd_T76 xs i).f3 := by
  obtain ⟨ad, c, e, _, hK, hc0⟩ := Kd.C_get h z76 i h0 h1
  have hc : ∀ j u, c[j]? = some u → w.cell? (ad.add (i.toNat * 4 + j)) = some u := hc0
  obtain ⟨A3, c3, rfl, l3, g3⟩ := k76_open hK
  exact ⟨ad, A3, c3, e, hc 0 _ rfl, by rw [← add_field _ _ 1 (by omega)]; exact hc 1 _ rfl, by rw [← add_field _ _ 2 (by omega)]; exact hc 2 _ rfl, by rw [← add_field _ _ 3 (by omega)]; exact hc 3 _ rfl, l3, g3⟩

/-! #### struct type 116 -/
structure S116 where
  f0 : (List Int)
  f1 : S76
def z116 : S116 := ⟨([] : List Int), z76⟩
def k116 : Kd S116 := Kd.iso (Kd.pair (Kd.slice 3 (Kd.int .i64)) k76) (fun x : S116 => (x.f0, x.f1))
theorem k116_open {w : World} {x : S116} {cs : List Value} (h : k116.K w x cs) : ∃ A0 c0 A4 c4, cs = [.slice A0 x.f0.length c0, .int .i64 x.f1.f0, .int .i64 x.f1.f1, .string x.f1.f2, .slice A4 x.f1.f3.length c4] ∧ x.f0.length ≤ c0 ∧ (Kd.int .i64).C w A0 x.f0.length x.f0 ∧ x.f1.f3.length ≤ c4 ∧ (Kd.int .i64).C w A4 x.f1.f3.length x.f1.f3 := by
  obtain ⟨_, _, rfl, ⟨A0, c0, rfl, l0, g0⟩, s1⟩ := h
  obtain ⟨A4, c4, rfl, l4, g4⟩ := k76_open s1
  exact ⟨A0, c0, A4, c4, rfl, l0, g0, l4, g4⟩
theorem k116_openM {w : World} {base : Nat} {ok : Nat → Prop} {x : S116} {cs : List Value} (h : k116.M w base ok x cs) : ∃ v0 v4, cs = [v0, .int .i64 x.f1.f0, .int .i64 x.f1.f1, .string x.f1.f2, v4] ∧ (Kd.int .i64).R 3 w base ok v0 x.f0 ∧ (Kd.int .i64).R 3 w base ok v4 x.f1.f3 := by
  obtain ⟨_, _, rfl, ⟨v0, rfl, g0⟩, s1⟩ := h
  obtain ⟨v4, rfl, g4⟩ := k76_openM s1
  exact ⟨v0, v4, rfl, g0, g4⟩
theorem k116_mk (w : World) (x : S116) {A0 : Option Addr} {c0 : Nat} (l0 : x.f0.length ≤ c0) (g0 : (Kd.int .i64).C w A0 x.f0.length x.f0) {A4 : Option Addr} {c4 : Nat} (l4 : x.f1.f3.length ≤ c4) (g4 : (Kd.int .i64).C w A4 x.f1.f3.length x.f1.f3) : k116.K w x [.slice A0 x.f0.length c0, .int .i64 x.f1.f0, .int .i64 x.f1.f1, .string x.f1.f2, .slice A4 x.f1.f3.length c4] := ⟨[.slice A0 x.f0.length c0], [.int .i64 x.f1.f0, .int .i64 x.f1.f1, .string x.f1.f2, .slice A4 x.f1.f3.length c4], rfl, ⟨A0, c0, rfl, l0, g0⟩, (k76_mk w x.f1 l4 g4)⟩
theorem k116_mkM (w : World) (base : Nat) (ok : Nat → Prop) (x : S116) {v0 : Value} (g0 : (Kd.int .i64).R 3 w base ok v0 x.f0) {v4 : Value} (g4 : (Kd.int .i64).R 3 w base ok v4 x.f1.f3) : k116.M w base ok x [v0, .int .i64 x.f1.f0, .int .i64 x.f1.f1, .string x.f1.f2, v4] := ⟨[v0], [.int .i64 x.f1.f0, .int .i64 x.f1.f1, .string x.f1.f2, v4], rfl, ⟨v0, rfl, g0⟩, (k76_mkM w base ok x.f1 g4)⟩
def rd_T116 (xs : List S116) (i : Int) : S116 := xs.getD i.toNat z116
theorem at_T116 {w : World} {A : Option Addr} {n : Nat} {xs : List S116} (h : Kd.C k116 w A n xs) (i : Int) (h0 : 0 ≤ i) (h1 : i < n) : ∃ ad A0 c0 A4 c4, A = some ad ∧ w.cell? (ad.add (i.toNat * 5)) = some (.slice A0 (rd_T116 xs i).f0.length c0) ∧ w.cell? ⟨(ad.add (i.toNat * 5)).block, (ad.add (i.toNat * 5)).off + 1, none⟩ = some (.int .i64 (rd_T116 xs i).f1.f0) ∧ w.cell? ⟨(ad.add (i.toNat * 5)).block, (ad.add (i.toNat * 5)).off + 2, none⟩ = some (.int .i64 (rd_T116 xs i).f1.f1) ∧ w.cell? ⟨(ad.add (i.toNat * 5)).block, (ad.add (i.toNat * 5)).off + 3, none⟩ = some (.string (rd_T116 xs i).f1.f2) ∧ w.cell? ⟨(ad.add (i.toNat * 5)).block, (ad.add (i.toNat * 5)).off + 4, none⟩ = some (.slice A4 (rd_T116 xs i).f1.f3.length c4) ∧ (rd_T116 xs i).f0.length ≤ c0 ∧ (Kd.int .i64).C w A0 (rd_T116 xs i).f0.length (rd_T116 xs i).f0 ∧ (rd_T116 xs i).f1.f3.length ≤ c4 ∧ (Kd.int .i64).C w A4 (rd_T116 xs i).f1.f3.length (rd_T116 xs i).f1.f3 := by
  obtain ⟨ad, c, e, _, hK, hc0⟩ := Kd.C_get h z116 i h0 h1
  have hc : ∀ j u, c[j]? = some u → w.cell? (ad.add (i.toNat * 5 + j)) = some u := hc0
  obtain ⟨A0, c0, A4, c4, rfl, l0, g0, l4, g4⟩ := k116_open hK
  exact ⟨ad, A0, c0, A4, c4, e, hc 0 _ rfl, by rw [← add_field _ _ 1 (by omega)]; exact hc 1 _ rfl, by rw [← add_field _ _ 2 (by omega)]; exact hc 2 _ rfl, by rw [← add_field _ _ 3 (by omega)]; exact hc 3 _ rfl, by rw [← add_field _ _ 4 (by omega)]; exact hc 4 _ rfl, l0, g0, l4, g4⟩

theorem zN {α : Type} {c : Prop} {i : Decidable c} {x : Option α} {r : α} (h : Aside0 ((if c then x else none) = some r)) : c ∧ Aside0 (x = some r) := by
  by_cases hc : c
  · exact ⟨hc, ⟨by have := h.out; rwa [if_pos hc] at this⟩⟩
  · have := h.out; rw [if_neg hc] at this; cases this
theorem zM {α : Type} {c : Prop} {i : Decidable c} {x : Option α} {r : α} (h : Aside0 ((if c then none else x) = some r)) : ¬ c ∧ Aside0 (x = some r) := by
  by_cases hc : c
  · have := h.out; rw [if_pos hc] at this; cases this
  · exact ⟨hc, ⟨by have := h.out; rwa [if_neg hc] at this⟩⟩
theorem zS {α β : Type} (v : α) {f : α → Option β} {r : β} (h : Aside0 ((some v).bind f = some r)) : ∃ y, Aside0 (y = v) ∧ Aside0 (f y = some r) := ⟨v, ⟨rfl⟩, ⟨h.out⟩⟩
theorem zR {p : Prop} (h : p := by repeat' first | (with_reducible apply_assumption) | (with_reducible exact LeO.refl _) | (with_reducible exact LeO.none _) | (with_reducible refine LeO.ite ?_ ?_) | (with_reducible refine LeO.bind ?_ (fun _ => ?_)) | apply_assumption | exact LeO.none _ | refine LeO.ite ?_ ?_ | refine LeO.bind ?_ (fun _ => ?_)) : p := h
theorem zA {p : Prop} (h : p) : Aside0 p := ⟨h⟩
theorem zF : ¬ (false = true) := by decide
theorem zB {α β : Type} {g : Option α} {f : α → Option β} {r : β} (h : Aside0 (g.bind f = some r)) : ∃ a, Aside0 (g = some a) ∧ Aside0 (f a = some r) := by
  obtain ⟨a, h1, h2⟩ := Option.bind_eq_some_iff.mp h.out
  exact ⟨a, ⟨h1⟩, ⟨h2⟩⟩
theorem zq0 {p_ : Prop} (h_ : p_ := by repeat (first | (with_reducible first | exact HB.out | apply below_alloc | apply pw_below_drewN | apply below_drew1 | refine below_set ?_ (Aside0.out (by assumption))) | exact HB.out)) : p_ := h_
theorem zq1 {p_ : Prop} (h_ : p_ := by first | rfl | (simp [errW_none, errW_some] <;> rfl) | (simp [*, errW_none, errW_some] <;> rfl)) : p_ := h_
theorem zq2 {p_ : Prop} (h_ : p_ := by repeat (first | (with_reducible first | exact HK.out | apply KeepBut.set_ | apply keep_drewN | apply keep_drew | apply keep_alloc) | exact HK.out)) : p_ := h_
theorem zq3 {p_ : Prop} (h_ : p_ := by repeat (first | (with_reducible first | exact HI0.out | apply IsS170.alloc | apply IsS170.drewN | apply IsS170.drew | apply IsS170.set_1 | apply IsS170.set_2) | exact HI0.out)) : p_ := h_
theorem zq5 {p_ : Prop} (h_ : p_ := by rw [hg]; exact (below_size zq0)) : p_ := h_
theorem zq6 {p_ : Prop} (h_ : p_ := by repeat (first | (with_reducible first | exact HB.out | apply below_alloc | apply pw_below_drewN | apply below_drew1 | refine below_set ?_ (IsS170.ge HI0.out)) | exact HB.out)) : p_ := h_
theorem zq7 {p_ : Prop} (h_ : p_ := by first | exact Kd.R_nil _ _ _ _ _ | exact Kd.N_nil _ _ _ _ _ | exact Kd.V_nil _ _ _ _ _ | exact Kd.Q_nil _ _ _ _ _ | exact Kd.S_nil _ _ _ _ _) : p_ := h_
theorem zq8 {p_ : Prop} (h_ : p_ := by (with_reducible repeat (first | apply Kd.R_alloc | apply Kd.R_drewN | apply Kd.R_drew)); exact HO_3.out) : p_ := h_
theorem zq9 {p_ : Prop} (h_ : p_ := by repeat (first | (with_reducible first | exact HI0.out | apply IsS170.alloc | apply IsS170.drewN | apply IsS170.drew | apply IsS170.set_1 | apply IsS170.set_2 | refine IsS170.far ?_ NB0_660.out _ | refine IsS170.far ?_ NB0_670.out _) | exact HI0.out)) : p_ := h_
theorem zq10 {p_ : Prop} (h_ : p_ := by (with_reducible repeat (first | refine blk_drewN ?_ _ | refine blk_drew ?_ | refine blk_alloc ?_ _)); exact BK816.out) : p_ := h_
theorem zq11 {p_ : Prop} (h_ : p_ := by (with_reducible repeat (first | apply Kd.R_alloc | apply Kd.R_drewN | apply Kd.R_drew)); exact HO_5.out) : p_ := h_
theorem zq13 {p_ : Prop} (h_ : p_ := by first | (with_reducible assumption) | assumption) : p_ := h_
theorem zq15 {p_ : Prop} (h_ : p_ := by first | rfl | (simp; done) | (simp [*]; done)) : p_ := h_
theorem zq16 {p_ : Prop} (h_ : p_ := by repeat (first | (with_reducible first | exact HK.out | apply KeepBut.set_ | apply keep_drewN | apply keep_drew | apply keep_alloc | refine keep_far ?_ GW660.out _ | refine keep_far ?_ GW670.out _) | exact HK.out)) : p_ := h_
theorem zq18 {p_ : Prop} (h_ : p_ := by repeat (first | exact (Kd.C_below HR0.out HB.out) | (with_reducible refine Kd.C_alloc ?_ _) | (with_reducible refine Kd.C_drewN ?_ _) | (with_reducible refine Kd.C_drew ?_))) : p_ := h_
theorem zq20 {p_ : Prop} (h_ : p_ := by (try simp only [List.map_toArray, List.map_cons, List.map_nil]); first | done | rfl | (simp only [List.length_drop, List.length_take]; rfl)) : p_ := h_
theorem zq24 {p_ : Prop} (h_ : p_ := by repeat (first | (with_reducible first | exact HI0.out | apply IsS170.alloc | apply IsS170.drewN | apply IsS170.drew | apply IsS170.set_1 | apply IsS170.set_2 | refine IsS170.far ?_ NB0_627.out _ | refine IsS170.far ?_ NB0_636.out _) | exact HI0.out)) : p_ := h_
theorem zq26 {p_ : Prop} (h_ : p_ := by repeat (first | (with_reducible first | exact HB.out | apply below_alloc | apply pw_below_drewN | apply below_drew1 | refine below_set ?_ (IsS170.ge HI0.out) | refine below_set ?_ GE660.out | refine below_set ?_ GE670.out) | exact HB.out)) : p_ := h_
theorem zq27 {p_ : Prop} (h_ : p_ := by repeat (first | (with_reducible first | exact HI0.out | apply IsS170.alloc | apply IsS170.drewN | apply IsS170.drew | apply IsS170.set_1 | apply IsS170.set_2 | refine IsS170.far ?_ NB0_566.out _ | refine IsS170.far ?_ NB0_577.out _) | exact HI0.out)) : p_ := h_
theorem zq30 {p_ : Prop} (h_ : p_ := by repeat (first | (with_reducible first | exact HI0.out | apply IsS170.alloc | apply IsS170.drewN | apply IsS170.drew | apply IsS170.set_1 | apply IsS170.set_2 | refine IsS170.far ?_ NB0_535.out _) | exact HI0.out)) : p_ := h_
theorem zq34 {p_ : Prop} (h_ : p_ := by repeat (first | (with_reducible first | exact HK.out | apply KeepBut.set_ | apply keep_drewN | apply keep_drew | apply keep_alloc | refine keep_far ?_ GW535.out _) | exact HK.out)) : p_ := h_
theorem zq35 {p_ : Prop} (h_ : p_ := by repeat (first | exact (Kd.R_reads' HO_5.out).2.2 | (with_reducible refine Kd.C_alloc ?_ _) | (with_reducible refine Kd.C_drewN ?_ _) | (with_reducible refine Kd.C_drew ?_))) : p_ := h_
theorem zq36 {p_ : Prop} (h_ : p_ := by repeat (first | (with_reducible first | exact HK.out | apply KeepBut.set_ | apply keep_drewN | apply keep_drew | apply keep_alloc | refine keep_far ?_ GW566.out _ | refine keep_far ?_ GW577.out _) | exact HK.out)) : p_ := h_
theorem zq37 {p_ : Prop} (h_ : p_ := by repeat (first | (with_reducible first | exact HB.out | apply below_alloc | apply pw_below_drewN | apply below_drew1 | refine below_set ?_ (IsS170.ge HI0.out) | refine below_set ?_ GE535.out) | exact HB.out)) : p_ := h_
theorem zq38 {p_ : Prop} (h_ : p_ := by repeat (first | (with_reducible first | exact HK.out | apply KeepBut.set_ | apply keep_drewN | apply keep_drew | apply keep_alloc | refine keep_far ?_ GW627.out _ | refine keep_far ?_ GW636.out _) | exact HK.out)) : p_ := h_
theorem zq41 {p_ : Prop} (h_ : p_ := by repeat (first | (with_reducible first | exact HB.out | apply below_alloc | apply pw_below_drewN | apply below_drew1 | refine below_set ?_ (IsS170.ge HI0.out) | refine below_set ?_ GE566.out | refine below_set ?_ GE577.out) | exact HB.out)) : p_ := h_
theorem zq45 {p_ : Prop} (h_ : p_ := by repeat (first | (with_reducible first | exact HB.out | apply below_alloc | apply pw_below_drewN | apply below_drew1 | refine below_set ?_ (IsS170.ge HI0.out) | refine below_set ?_ GE627.out | refine below_set ?_ GE636.out) | exact HB.out)) : p_ := h_
theorem zq49 {p_ : Prop} (h_ : p_ := by (with_reducible repeat (first | apply Kd.R_alloc | apply Kd.R_drewN | apply Kd.R_drew)); exact (Kd.R_mono (Kd.R_far (p := ⟨gb777, 3, none⟩) (Kd.R_far (p := ⟨gb777, 2, none⟩) (Kd.R_far (p := ⟨gb777, 1, none⟩) (Kd.R_far (p := ⟨gb777, 0, none⟩) (Kd.R_types HO776.out BK777.out (by decide)) (fun _ hk => hk.2) (.int .i64 t771)) (fun _ hk => hk.2) (.int .i64 0)) (fun _ hk => hk.2) (.string (⟨#[]⟩ : ByteArray))) (fun _ hk => hk.2) (.slice none 0 0)) (fun _ h_ => h_.1))) : p_ := h_
theorem zq52 {p_ : Prop} (h_ : p_ := by decide) : p_ := h_
theorem zq53 {p_ : Prop} (h_ : p_ := by (with_reducible repeat (first | apply Kd.R_alloc | apply Kd.R_drewN | apply Kd.R_drew)); exact HO248.out) : p_ := h_
theorem zq54 {p_ : Prop} (h_ : p_ := by (with_reducible repeat (first | apply Kd.S_alloc | apply Kd.S_drewN | apply Kd.S_drew)); exact HO_816004.out) : p_ := h_
theorem zq55 {p_ : Prop} (h_ : p_ := by (with_reducible repeat (first | apply Kd.R_alloc | apply Kd.R_drewN | apply Kd.R_drew)); exact HO_817000.out) : p_ := h_
theorem zq56 {p_ : Prop} (h_ : p_ := by (with_reducible repeat (first | apply Kd.R_alloc | apply Kd.R_drewN | apply Kd.R_drew)); exact HO_832000.out) : p_ := h_
theorem zq64 {p_ : Prop} (h_ : p_ := by repeat (first | (with_reducible first | exact HB.out | apply below_alloc | apply pw_below_drewN | apply below_drew1 | refine below_set ?_ (IsS127.ge HI0.out)) | exact HB.out)) : p_ := h_
theorem zq65 {p_ : Prop} (h_ : p_ := by repeat (first | exact Drawn0.refl _ | apply Drawn0.step)) : p_ := h_
theorem zq67 {p_ : Prop} (h_ : p_ := by repeat (first | (with_reducible first | exact HI0.out | apply IsS127.alloc | apply IsS127.drewN | apply IsS127.drew | apply IsS127.set_1 | apply IsS127.set_2) | exact HI0.out)) : p_ := h_
theorem zq68 {p_ : Prop} (h_ : p_ := by repeat (first | exact (Kd.C_below HR126_4.out zq0) | (with_reducible refine Kd.C_alloc ?_ _) | (with_reducible refine Kd.C_drewN ?_ _) | (with_reducible refine Kd.C_drew ?_))) : p_ := h_
theorem zq69 {p_ : Prop} (h_ : p_ := by repeat (first | (with_reducible first | exact HI0.out | apply IsS170.alloc | apply IsS170.drewN | apply IsS170.drew | apply IsS170.set_1 | apply IsS170.set_2 | refine IsS170.far ?_ NB0_566.out _) | exact HI0.out)) : p_ := h_
theorem zq70 {p_ : Prop} (h_ : p_ := by first | exact Kd.S_nil _ _ _ _ _ | exact Kd.N_nil _ _ _ _ _ | exact Kd.V_nil _ _ _ _ _ | exact Kd.Q_nil _ _ _ _ _ | exact Kd.R_nil _ _ _ _ _) : p_ := h_
theorem zq71 {p_ : Prop} (h_ : p_ := by repeat (first | (with_reducible first | exact HB.out | apply below_alloc | apply pw_below_drewN | apply below_drew1 | refine below_set ?_ (IsS127.ge HI789.out) | refine below_set ?_ GE788.out) | exact HB.out)) : p_ := h_
theorem zq73 {p_ : Prop} (h_ : p_ := by repeat (first | exact (Kd.C_below HR0_3.out HB.out) | (with_reducible refine Kd.C_alloc ?_ _) | (with_reducible refine Kd.C_drewN ?_ _) | (with_reducible refine Kd.C_drew ?_))) : p_ := h_
theorem zq77 {p_ : Prop} (h_ : p_ := by rw [hg]; exact (keep_size (w := w) (g := g) (row := none) zq2)) : p_ := h_
theorem zq78 {p_ : Prop} (h_ : p_ := by (with_reducible repeat (first | apply Kd.R_alloc | apply Kd.R_drewN | apply Kd.R_drew)); exact HO303.out) : p_ := h_
theorem zq79 {p_ : Prop} (h_ : p_ := by rw [hg]; exact (below_size zq0)) : p_ := h_
theorem zq80 {p_ : Prop} (h_ : p_ := by repeat (first | exact (Kd.C_below HR124_0.out HB.out) | (with_reducible refine Kd.C_alloc ?_ _) | (with_reducible refine Kd.C_drewN ?_ _) | (with_reducible refine Kd.C_drew ?_))) : p_ := h_
theorem zq81 {p_ : Prop} (h_ : p_ := by (with_reducible repeat (first | apply Kd.R_alloc | apply Kd.R_drewN | apply Kd.R_drew)); exact HO203.out) : p_ := h_
theorem zq82 {p_ : Prop} (h_ : p_ := by (with_reducible repeat (first | apply Kd.R_alloc | apply Kd.R_drewN | apply Kd.R_drew)); exact HO254.out) : p_ := h_
theorem zq83 {p_ : Prop} (h_ : p_ := by (with_reducible repeat (first | apply Kd.R_alloc | apply Kd.R_drewN | apply Kd.R_drew)); exact HO257.out) : p_ := h_
theorem zq84 {p_ : Prop} (h_ : p_ := by (with_reducible repeat (first | apply Kd.S_alloc | apply Kd.S_drewN | apply Kd.S_drew)); exact HO895.out) : p_ := h_
theorem zq87 {p_ : Prop} (h_ : p_ := by rw [hg]; exact (below_size zq0)) : p_ := h_
theorem zq88 {p_ : Prop} (h_ : p_ := by (with_reducible repeat (first | apply Kd.R_alloc | apply Kd.R_drewN | apply Kd.R_drew)); exact HO306.out) : p_ := h_
theorem zq89 {p_ : Prop} (h_ : p_ := by repeat (first | (with_reducible first | exact HK.out | apply KeepBut.set_ | apply keep_drewN | apply keep_drew | apply keep_alloc | refine keep_far ?_ GW566.out _) | exact HK.out)) : p_ := h_
theorem zq94 {p_ : Prop} (h_ : p_ := by rfl) : p_ := h_
theorem zq97 {p_ : Prop} (h_ : p_ := by rw [hg]; exact (below_size zq0)) : p_ := h_
theorem zq100 {p_ : Prop} (h_ : p_ := by repeat (first | (with_reducible first | exact HI789.out | apply IsS127.alloc | apply IsS127.drewN | apply IsS127.drew | apply IsS127.set_1 | apply IsS127.set_2 | refine IsS127.far ?_ NB789_788.out _) | exact HI789.out)) : p_ := h_
theorem zq101 {p_ : Prop} (h_ : p_ := by repeat (first | exact (Kd.C_below HR1_3.out HB.out) | (with_reducible refine Kd.C_alloc ?_ _) | (with_reducible refine Kd.C_drewN ?_ _) | (with_reducible refine Kd.C_drew ?_))) : p_ := h_
theorem zq102 {p_ : Prop} (h_ : p_ := by repeat (first | exact (Kd.C_below HR0_4.out HB.out) | (with_reducible refine Kd.C_alloc ?_ _) | (with_reducible refine Kd.C_drewN ?_ _) | (with_reducible refine Kd.C_drew ?_))) : p_ := h_
theorem zq105 {p_ : Prop} (h_ : p_ := by repeat (first | (with_reducible first | exact HB.out | apply below_alloc | apply pw_below_drewN | apply below_drew1 | refine below_set ?_ (IsS170.ge HI714.out) | refine below_set ?_ GE710.out) | exact HB.out)) : p_ := h_
theorem zq106 {p_ : Prop} (h_ : p_ := by rw [hg]; exact (below_size zq0)) : p_ := h_
theorem zq109 {p_ : Prop} (h_ : p_ := by repeat (first | (with_reducible first | exact HB.out | apply below_alloc | apply pw_below_drewN | apply below_drew1 | refine below_set ?_ (IsS127.ge HI789.out) | refine below_set ?_ GE788.out | refine below_set ?_ GE807.out) | exact HB.out)) : p_ := h_
theorem zq111 {p_ : Prop} (h_ : p_ := by repeat (first | (with_reducible first | exact HI714.out | apply IsS170.alloc | apply IsS170.drewN | apply IsS170.drew | apply IsS170.set_1 | apply IsS170.set_2 | refine IsS170.far ?_ NB714_710.out _) | exact HI714.out)) : p_ := h_
theorem zq116 {p_ : Prop} (h_ : p_ := by repeat (first | (with_reducible first | exact HB.out | apply below_alloc | apply pw_below_drewN | apply below_drew1 | refine below_set ?_ (IsS170.ge HI0.out) | refine below_set ?_ GE566.out) | exact HB.out)) : p_ := h_
theorem zq120 {p_ : Prop} (h_ : p_ := by first | omega | exact Nat.le_refl _) : p_ := h_
theorem zq122 {p_ : Prop} (h_ : p_ := by rw [hg]; exact Nat.ne_of_lt (IsS170.lt (show IsS170 w0 _ g s0_0 s0_1 s0_2 from zq3))) : p_ := h_
theorem zq123 {p_ : Prop} (h_ : p_ := by rw [hg]; exact Nat.ne_of_gt (IsS170.lt (show IsS170 w0 _ g s0_0 s0_1 s0_2 from zq3))) : p_ := h_
theorem zq124 {p_ : Prop} (h_ : p_ := by (with_reducible repeat (first | apply Kd.R_alloc | apply Kd.R_drewN | apply Kd.R_drew)); exact (Kd.R_mono (Kd.R_far (p := ⟨gb777, 3, none⟩) (Kd.R_types HO785.out BK777.out (by decide)) (fun _ hk => hk.2) (.slice Ao72 t782.length co72)) (fun _ h_ => h_.1))) : p_ := h_
theorem zq134 {p_ : Prop} (h_ : p_ := by repeat (first | (with_reducible first | exact HK.out | apply KeepBut.set_ | apply keep_drewN | apply keep_drew | apply keep_alloc | refine keep_far ?_ GW627.out _) | exact HK.out)) : p_ := h_
theorem zq135 {p_ : Prop} (h_ : p_ := by repeat (first | (with_reducible first | exact HK.out | apply KeepBut.set_ | apply keep_drewN | apply keep_drew | apply keep_alloc | refine keep_far ?_ GW660.out _) | exact HK.out)) : p_ := h_
theorem zq138 {p_ : Prop} (h_ : p_ := by repeat (first | exact (Kd.R_reads' HO_3.out).2.2 | (with_reducible refine Kd.C_alloc ?_ _) | (with_reducible refine Kd.C_drewN ?_ _) | (with_reducible refine Kd.C_drew ?_))) : p_ := h_
theorem zq139 {p_ : Prop} (h_ : p_ := by repeat (first | (with_reducible first | exact HBW.out | apply below_alloc | apply pw_below_drewN | apply below_drew1) | exact HBW.out)) : p_ := h_
theorem zq141 {p_ : Prop} (h_ : p_ := by repeat (first | (with_reducible first | exact HI0.out | apply IsS170.alloc | apply IsS170.drewN | apply IsS170.drew | apply IsS170.set_1 | apply IsS170.set_2 | refine IsS170.far ?_ NB0_627.out _) | exact HI0.out)) : p_ := h_
theorem zq142 {p_ : Prop} (h_ : p_ := by repeat (first | (with_reducible first | exact HI0.out | apply IsS170.alloc | apply IsS170.drewN | apply IsS170.drew | apply IsS170.set_1 | apply IsS170.set_2 | refine IsS170.far ?_ NB0_660.out _) | exact HI0.out)) : p_ := h_
theorem zq158 {p_ : Prop} (h_ : p_ := by (with_reducible repeat (first | apply Kd.R_alloc | apply Kd.R_drewN | apply Kd.R_drew)); exact (Kd.R_mono (Kd.R_far (p := ⟨gb777, 2, none⟩) (Kd.R_far (p := ⟨gb777, 3, none⟩) (Kd.R_far (p := ⟨gb777, 2, none⟩) (Kd.R_far (p := ⟨gb777, 1, none⟩) (Kd.R_far (p := ⟨gb777, 0, none⟩) (Kd.R_types HO776.out BK777.out (by decide)) (fun _ hk => hk.2) (.int .i64 t771)) (fun _ hk => hk.2) (.int .i64 0)) (fun _ hk => hk.2) (.string (⟨#[]⟩ : ByteArray))) (fun _ hk => hk.2) (.slice none 0 0)) (fun _ hk => hk.2) (.string (strOfNums t772))) (fun _ h_ => h_.1))) : p_ := h_
theorem zq161 {p_ : Prop} (h_ : p_ := by (with_reducible repeat (first | apply Kd.S_alloc | apply Kd.S_drewN | apply Kd.S_drew)); exact (Kd.S_mono (Kd.S_far (p := ⟨gb935, 4, none⟩) (Kd.S_far (p := ⟨gb935, 3, none⟩) (Kd.S_far (p := ⟨gb935, 2, none⟩) (Kd.S_far (p := ⟨gb935, 1, none⟩) (Kd.S_far (p := ⟨gb935, 0, none⟩) (Kd.S_types HO910.out BK935.out (by decide)) (fun _ hk => hk.2) (.int .i64 t927)) (fun _ hk => hk.2) (.int .i64 t928)) (fun _ hk => hk.2) (.int .i64 t929)) (fun _ hk => hk.2) (.int .i64 t930)) (fun _ hk => hk.2) (.slice Ao61 t931.length co61)) (fun _ h_ => h_.1))) : p_ := h_
theorem zq162 {p_ : Prop} (h_ : p_ := by (with_reducible repeat (first | apply Kd.S_alloc | apply Kd.S_drewN | apply Kd.S_drew)); exact (Kd.S_mono (Kd.S_far (p := ⟨gb935, 4, none⟩) (Kd.S_far (p := ⟨gb935, 3, none⟩) (Kd.S_far (p := ⟨gb935, 2, none⟩) (Kd.S_far (p := ⟨gb935, 1, none⟩) (Kd.S_far (p := ⟨gb935, 0, none⟩) (Kd.S_types HO895.out BK935.out (by decide)) (fun _ hk => hk.2) (.int .i64 t927)) (fun _ hk => hk.2) (.int .i64 t928)) (fun _ hk => hk.2) (.int .i64 t929)) (fun _ hk => hk.2) (.int .i64 t930)) (fun _ hk => hk.2) (.slice Ao61 t931.length co61)) (fun _ h_ => h_.1))) : p_ := h_
theorem zq170 {p_ : Prop} (h_ : p_ := by first | rfl | (simp [errW_none, errW_some] <;> rfl) | (simp only [← hji10]; first | rfl | (simp [errW_none, errW_some] <;> rfl)) | (simp [*, errW_none, errW_some] <;> rfl)) : p_ := h_
theorem zq171 {p_ : Prop} (h_ : p_ := by repeat (first | exact (Kd.R_reads' HO899.out).2.2 | (with_reducible refine Kd.C_alloc ?_ _) | (with_reducible refine Kd.C_drewN ?_ _) | (with_reducible refine Kd.C_drew ?_))) : p_ := h_
theorem zq179 {p_ : Prop} (h_ : p_ := by rw [hg]; exact (below_size zq139)) : p_ := h_
theorem zq182 {p_ : Prop} (h_ : p_ := by have := HK1.out; omega) : p_ := h_
theorem zq183 {p_ : Prop} (h_ : p_ := by omega) : p_ := h_
theorem zq184 {p_ : Prop} (h_ : p_ := by (with_reducible repeat (first | apply Kd.V_alloc | apply Kd.V_drewN | apply Kd.V_drew)); exact HO312.out) : p_ := h_
theorem zq188 {p_ : Prop} (h_ : p_ := by (with_reducible repeat (first | apply Kd.S_alloc | apply Kd.S_drewN | apply Kd.S_drew)); exact Kd.S_mono HO_816004.out (fun k_ hk => ⟨hk.2.2, fun e_ => e_.elim (fun h_ => hk.1 h_) (fun h_ => hk.2.1 h_)⟩)) : p_ := h_
theorem zq189 {p_ : Prop} (h_ : p_ := by first | rfl | (simp only [i64_w, i32_w]; done) | (simp only [i64_w, i32_w]; rfl)) : p_ := h_
theorem zq190 {p_ : Prop} (h_ : p_ := by refine (Kd.R_reads' (e := 3) (base := w.heap.size) (ok := fun k_ => True) (n := t782.length) (c := co72) ?_).2.2; exact zq124) : p_ := h_
theorem zq191 {p_ : Prop} (h_ : p_ := by repeat (first | (with_reducible exact HR876.out) | (with_reducible refine Kd.C_alloc ?_ _) | (with_reducible refine Kd.C_drewN ?_ _) | (with_reducible refine Kd.C_drew ?_) | exact HR876.out)) : p_ := h_
theorem zq192 {p_ : Prop} (h_ : p_ := by repeat (first | (with_reducible exact HR926.out) | (with_reducible refine Kd.C_alloc ?_ _) | (with_reducible refine Kd.C_drewN ?_ _) | (with_reducible refine Kd.C_drew ?_) | exact HR926.out)) : p_ := h_
theorem zq193 {p_ : Prop} (h_ : p_ := by first | rfl | (simp [errW_none, errW_some] <;> rfl) | (simp only [← hji10, ← hji19]; first | rfl | (simp [errW_none, errW_some] <;> rfl)) | (simp [*, errW_none, errW_some] <;> rfl)) : p_ := h_
theorem zq194 {p_ : Prop} (h_ : p_ := by repeat (first | exact (Kd.C_below HR108_0.out HB.out) | (with_reducible refine Kd.C_alloc ?_ _) | (with_reducible refine Kd.C_drewN ?_ _) | (with_reducible refine Kd.C_drew ?_))) : p_ := h_
theorem zq195 {p_ : Prop} (h_ : p_ := by repeat (first | exact (Kd.C_below HR109_0.out HB.out) | (with_reducible refine Kd.C_alloc ?_ _) | (with_reducible refine Kd.C_drewN ?_ _) | (with_reducible refine Kd.C_drew ?_))) : p_ := h_
theorem zq196 {p_ : Prop} (h_ : p_ := by repeat (first | exact (Kd.R_reads' HO_832000.out).2.2 | (with_reducible refine Kd.C_alloc ?_ _) | (with_reducible refine Kd.C_drewN ?_ _) | (with_reducible refine Kd.C_drew ?_))) : p_ := h_
theorem zq197 {p_ : Prop} (h_ : p_ := by repeat (first | exact (Kd.S_reads' HO_816004.out).2.2 | (with_reducible refine Kd.C_alloc ?_ _) | (with_reducible refine Kd.C_drewN ?_ _) | (with_reducible refine Kd.C_drew ?_))) : p_ := h_
theorem zq200 {p_ : Prop} (h_ : p_ := by repeat (first | exact (Kd.C_below HR1_4.out HB.out) | (with_reducible refine Kd.C_alloc ?_ _) | (with_reducible refine Kd.C_drewN ?_ _) | (with_reducible refine Kd.C_drew ?_))) : p_ := h_
theorem zq201 {p_ : Prop} (h_ : p_ := by repeat (first | exact (Kd.C_below HR2.out HB.out) | (with_reducible refine Kd.C_alloc ?_ _) | (with_reducible refine Kd.C_drewN ?_ _) | (with_reducible refine Kd.C_drew ?_))) : p_ := h_
theorem zq202 {p_ : Prop} (h_ : p_ := by repeat (first | exact (Kd.C_below HR1.out HB.out) | (with_reducible refine Kd.C_alloc ?_ _) | (with_reducible refine Kd.C_drewN ?_ _) | (with_reducible refine Kd.C_drew ?_))) : p_ := h_
theorem zq203 {p_ : Prop} (h_ : p_ := by repeat (first | exact (Kd.R_reads' HO840.out).2.2 | (with_reducible refine Kd.C_alloc ?_ _) | (with_reducible refine Kd.C_drewN ?_ _) | (with_reducible refine Kd.C_drew ?_))) : p_ := h_
theorem zq204 {p_ : Prop} (h_ : p_ := by repeat (first | exact (Kd.S_reads' HO895.out).2.2 | (with_reducible refine Kd.C_alloc ?_ _) | (with_reducible refine Kd.C_drewN ?_ _) | (with_reducible refine Kd.C_drew ?_))) : p_ := h_
theorem zq214 {p_ : Prop} (h_ : p_ := by repeat (first | exact (Kd.C_below HR111_4.out zq0) | (with_reducible refine Kd.C_alloc ?_ _) | (with_reducible refine Kd.C_drewN ?_ _) | (with_reducible refine Kd.C_drew ?_))) : p_ := h_
theorem zq215 {p_ : Prop} (h_ : p_ := by repeat (first | exact (Kd.C_below HR112_4.out zq0) | (with_reducible refine Kd.C_alloc ?_ _) | (with_reducible refine Kd.C_drewN ?_ _) | (with_reducible refine Kd.C_drew ?_))) : p_ := h_
theorem zq218 {p_ : Prop} (h_ : p_ := by simp only [putAll, Act.put, List.setIfInBounds_toArray, List.set_cons_zero, List.set_cons_succ]) : p_ := h_
theorem zq219 {p_ : Prop} (h_ : p_ := by simp) : p_ := h_
theorem zq222 {p_ : Prop} (h_ : p_ := by have := HK1.out; first | omega | exact Nat.le_refl _) : p_ := h_
theorem zq223 {p_ : Prop} (h_ : p_ := by rw [hg]; exact (below_size zq0)) : p_ := h_
theorem zq225 {p_ : Prop} (h_ : p_ := by (with_reducible repeat (first | apply Kd.R_alloc | apply Kd.R_drewN | apply Kd.R_drew)); exact (Kd.R_mono (Kd.R_far (p := ⟨gb777, 3, none⟩) (Kd.R_types HO776.out BK777.out (by decide)) (fun _ hk => hk.2) (.slice Ao72 t782.length co72)) (fun _ h_ => h_.1))) : p_ := h_
theorem zq226 {p_ : Prop} (h_ : p_ := by (with_reducible repeat (first | apply Kd.R_alloc | apply Kd.R_drewN | apply Kd.R_drew)); exact (Kd.R_mono (Kd.R_far (p := ⟨gb777, 1, none⟩) (Kd.R_types HO776.out BK777.out (by decide)) (fun _ hk => hk.2) (.int .i64 t778)) (fun _ h_ => h_.1))) : p_ := h_
theorem zq227 {p_ : Prop} (h_ : p_ := by rw [hg]; exact (keep_size (w := w) (g := g) (row := none) zq89)) : p_ := h_
theorem zq228 {p_ : Prop} (h_ : p_ := by rw [hg]; exact (keep_size (w := w) (g := g) (row := none) zq134)) : p_ := h_
theorem zq229 {p_ : Prop} (h_ : p_ := by rw [hg]; exact (keep_size (w := w) (g := g) (row := none) zq135)) : p_ := h_
theorem zq230 {p_ : Prop} (h_ : p_ := by rw [hg]; exact (below_size zq71)) : p_ := h_
theorem zq236 {p_ : Prop} (h_ : p_ := by rw [hg]; exact (below_size zq0)) : p_ := h_
theorem zq237 {p_ : Prop} (h_ : p_ := by rw [hg]; exact (below_size zq0)) : p_ := h_
theorem zq241 {p_ : Prop} (h_ : p_ := by (with_reducible repeat (first | apply Kd.V_alloc | apply Kd.V_drewN | apply Kd.V_drew)); exact HO475.out) : p_ := h_
theorem zq248 {p_ : Prop} (h_ : p_ := by repeat (first | (with_reducible first | exact HB.out | apply below_alloc | apply pw_below_drewN | apply below_drew1 | refine below_set ?_ (IsS170.ge HI0.out) | refine below_set ?_ GE627.out) | exact HB.out)) : p_ := h_
theorem zq249 {p_ : Prop} (h_ : p_ := by repeat (first | (with_reducible first | exact HB.out | apply below_alloc | apply pw_below_drewN | apply below_drew1 | refine below_set ?_ (IsS170.ge HI0.out) | refine below_set ?_ GE660.out) | exact HB.out)) : p_ := h_
theorem zq250 {p_ : Prop} (h_ : p_ := by rw [hg]; exact (below_size zq0)) : p_ := h_
theorem zq251 {p_ : Prop} (h_ : p_ := by rw [hg]; exact (below_size zq0)) : p_ := h_
theorem zq252 {p_ : Prop} (h_ : p_ := by rw [hg]; exact (below_size zq0)) : p_ := h_
theorem zq253 {p_ : Prop} (h_ : p_ := by rw [hg]; exact (below_size zq0)) : p_ := h_
theorem zq254 {p_ : Prop} (h_ : p_ := by rw [hg]; exact (below_size zq0)) : p_ := h_
theorem zq255 {p_ : Prop} (h_ : p_ := by rw [hg]; exact (below_size zq0)) : p_ := h_
theorem zq256 {p_ : Prop} (h_ : p_ := by rw [hg]; exact (below_size zq0)) : p_ := h_
theorem zq257 {p_ : Prop} (h_ : p_ := by rw [hg]; exact (below_size zq0)) : p_ := h_
theorem zq258 {p_ : Prop} (h_ : p_ := by repeat (first | exact (Kd.C_below HR231_0.out HB.out) | (with_reducible refine Kd.C_alloc ?_ _) | (with_reducible refine Kd.C_drewN ?_ _) | (with_reducible refine Kd.C_drew ?_))) : p_ := h_
theorem zq259 {p_ : Prop} (h_ : p_ := by repeat (first | exact (Kd.R_reads' HO902.out).2.2 | (with_reducible refine Kd.C_alloc ?_ _) | (with_reducible refine Kd.C_drewN ?_ _) | (with_reducible refine Kd.C_drew ?_))) : p_ := h_
theorem zq260 {p_ : Prop} (h_ : p_ := by repeat (first | exact (Kd.R_reads' HO_7.out).2.2 | (with_reducible refine Kd.C_alloc ?_ _) | (with_reducible refine Kd.C_drewN ?_ _) | (with_reducible refine Kd.C_drew ?_))) : p_ := h_
theorem zq262 {p_ : Prop} (h_ : p_ := by (with_reducible repeat (first | apply Kd.R_alloc | apply Kd.R_drewN | apply Kd.R_drew)); exact Kd.R_mono HO230.out (fun _ hk => ⟨hk.2, hk.1.2⟩)) : p_ := h_
theorem zq263 {p_ : Prop} (h_ : p_ := by (with_reducible repeat (first | apply Kd.R_alloc | apply Kd.R_drewN | apply Kd.R_drew)); exact Kd.R_mono HO234.out (fun _ hk => ⟨hk.2, hk.1.2⟩)) : p_ := h_
theorem zq264 {p_ : Prop} (h_ : p_ := by (with_reducible repeat (first | apply Kd.R_alloc | apply Kd.R_drewN | apply Kd.R_drew)); exact Kd.R_mono HO254.out (fun _ hk => ⟨hk.1.2, hk.2⟩)) : p_ := h_
theorem zq265 {p_ : Prop} (h_ : p_ := by (with_reducible repeat (first | apply Kd.R_alloc | apply Kd.R_drewN | apply Kd.R_drew)); exact Kd.R_mono HO257.out (fun _ hk => ⟨hk.1.2, hk.2⟩)) : p_ := h_
theorem zq266 {p_ : Prop} (h_ : p_ := by (with_reducible repeat (first | apply Kd.R_alloc | apply Kd.R_drewN | apply Kd.R_drew)); exact Kd.R_mono HO_3.out (fun _ hk => hk.2)) : p_ := h_
theorem zq276 {p_ : Prop} (h_ : p_ := by have := HJ7.out; first | omega | exact Nat.le_refl _) : p_ := h_
theorem zq302 {p_ : Prop} (h_ : p_ := by first | omega | exact of_decide_eq_true zq13) : p_ := h_
theorem zE {α : Type} {t : Bool} {x y : Option α} {r : α} (h : Aside0 ((if t = true then x else y) = some r)) : (t = true ∧ Aside0 (x = some r)) ∨ (t = false ∧ Aside0 (y = some r)) := by
  cases t
  · exact .inr ⟨rfl, ⟨by have := h.out; rwa [if_neg (by decide)] at this⟩⟩
  · exact .inl ⟨rfl, ⟨by have := h.out; rwa [if_pos rfl] at this⟩⟩
theorem zP {α : Type} {c : Prop} {i : Decidable c} {x y : Option α} {r : α} (h : Aside0 ((if c then x else y) = some r)) : (c ∧ Aside0 (x = some r)) ∨ (¬ c ∧ Aside0 (y = some r)) := by
  by_cases hc : c
  · exact .inl ⟨hc, ⟨by have := h.out; rwa [if_pos hc] at this⟩⟩
  · exact .inr ⟨hc, ⟨by have := h.out; rwa [if_neg hc] at this⟩⟩
theorem zbb {wl w w1 : World} {g : Nat} {o : Obj} (h : wl.heap[g]? = some o) (hb : Below w.heap.size w w1) (e_ : wl.heap[g]? = some o → w.heap[g]? = some o := by intro h_; (with_reducible repeat (first | refine blk_drewN ?_ _ | refine blk_drew ?_ | refine blk_alloc ?_ _)); exact h_) : w1.heap[g]? = some o := blk_below (e_ h) hb
theorem zkb {wl w w1 : World} {g g' : Nat} {o : Obj} (hk : KeepBut w w1 g none) (h : wl.heap[g']? = some o) (hne : g' ≠ g) (e_ : wl.heap[g']? = some o → w.heap[g']? = some o := by intro h_; (with_reducible repeat (first | refine blk_drewN ?_ _ | refine blk_drew ?_ | refine blk_alloc ?_ _)); exact h_) : w1.heap[g']? = some o := KeepBut.blk hk (e_ h) hne (by simp)
theorem zc3 {w : World} {g : Nat} {t : TypeId} {v0 v1 v2 : Value} (h : w.heap[g]? = some (.cells #[v0, v1, v2] t (0, 0))) : w.cell? ⟨g, 0, none⟩ = some v0 ∧ w.cell? ⟨g, 1, none⟩ = some v1 ∧ w.cell? ⟨g, 2, none⟩ = some v2 ∧ w.frozen? ⟨g, 0, none⟩ = false ∧ w.frozen? ⟨g, 1, none⟩ = false ∧ w.frozen? ⟨g, 2, none⟩ = false := ⟨(blk_cell h 0).trans rfl, (blk_cell h 1).trans rfl, (blk_cell h 2).trans rfl, blk_frozen h 0, blk_frozen h 1, blk_frozen h 2⟩
theorem zc4 {w : World} {g : Nat} {t : TypeId} {v0 v1 v2 v3 : Value} (h : w.heap[g]? = some (.cells #[v0, v1, v2, v3] t (0, 0))) : w.cell? ⟨g, 0, none⟩ = some v0 ∧ w.cell? ⟨g, 1, none⟩ = some v1 ∧ w.cell? ⟨g, 2, none⟩ = some v2 ∧ w.cell? ⟨g, 3, none⟩ = some v3 ∧ w.frozen? ⟨g, 0, none⟩ = false ∧ w.frozen? ⟨g, 1, none⟩ = false ∧ w.frozen? ⟨g, 2, none⟩ = false ∧ w.frozen? ⟨g, 3, none⟩ = false := ⟨(blk_cell h 0).trans rfl, (blk_cell h 1).trans rfl, (blk_cell h 2).trans rfl, (blk_cell h 3).trans rfl, blk_frozen h 0, blk_frozen h 1, blk_frozen h 2, blk_frozen h 3⟩
theorem zc5 {w : World} {g : Nat} {t : TypeId} {v0 v1 v2 v3 v4 : Value} (h : w.heap[g]? = some (.cells #[v0, v1, v2, v3, v4] t (0, 0))) : w.cell? ⟨g, 0, none⟩ = some v0 ∧ w.cell? ⟨g, 1, none⟩ = some v1 ∧ w.cell? ⟨g, 2, none⟩ = some v2 ∧ w.cell? ⟨g, 3, none⟩ = some v3 ∧ w.cell? ⟨g, 4, none⟩ = some v4 ∧ w.frozen? ⟨g, 0, none⟩ = false ∧ w.frozen? ⟨g, 1, none⟩ = false ∧ w.frozen? ⟨g, 2, none⟩ = false ∧ w.frozen? ⟨g, 3, none⟩ = false ∧ w.frozen? ⟨g, 4, none⟩ = false := ⟨(blk_cell h 0).trans rfl, (blk_cell h 1).trans rfl, (blk_cell h 2).trans rfl, (blk_cell h 3).trans rfl, (blk_cell h 4).trans rfl, blk_frozen h 0, blk_frozen h 1, blk_frozen h 2, blk_frozen h 3, blk_frozen h 4⟩
section
variable {P : Program} {ops : Array Oper} {oi : Oper} {a : Act} {Q : Exit → Act → World → Prop} {w : World} {rest : List Oper} {as_ : Array Operand} {ts : Array TypeId}
theorem zh {p_ : Prop} (h_ : p_ := by (try simp only [List.map_toArray, List.map_cons, List.map_nil]); first | done | rfl | (simp only [List.length_drop, List.length_take]; rfl)) : p_ := h_
theorem zg18 (_ho : oi.op = .call { callee := .value (.func 18), args := as_, argTypes := ts }) (h : wpList P ops Q (oi :: rest) a w) : wpList P ops Q (oi :: rest) a w := h
theorem zl18 (N : Option Tmp) (args : Array Value) (h : Calls Try.prog 18 args w fun e w' => ∃ v, e = .returned v ∧ wpList Try.prog ops Q rest (a.put N v) w') (hd : oi.dst = N := by exact rfl) (hg : oi.guard = none := by exact rfl) (hop : oi.op = .call { callee := .value (.func 18), args := as_, argTypes := ts } := by exact rfl) (hr_ : as_.map a.eval = args := by exact zh) : wpList Try.prog ops Q (oi :: rest) a w := goesL_ N hd hg Try.func18 (by kernel_rfl) rfl args hop hr_ h
theorem zg20 (_ho : oi.op = .call { callee := .value (.func 20), args := as_, argTypes := ts }) (h : wpList P ops Q (oi :: rest) a w) : wpList P ops Q (oi :: rest) a w := h
theorem zl20 (N : Option Tmp) (args : Array Value) (h : Calls Try.prog 20 args w fun e w' => ∃ v, e = .returned v ∧ wpList Try.prog ops Q rest (a.put N v) w') (hd : oi.dst = N := by exact rfl) (hg : oi.guard = none := by exact rfl) (hop : oi.op = .call { callee := .value (.func 20), args := as_, argTypes := ts } := by exact rfl) (hr_ : as_.map a.eval = args := by exact zh) : wpList Try.prog ops Q (oi :: rest) a w := goesL_ N hd hg Try.func20 (by kernel_rfl) rfl args hop hr_ h
theorem zg22 (_ho : oi.op = .call { callee := .value (.func 22), args := as_, argTypes := ts }) (h : wpList P ops Q (oi :: rest) a w) : wpList P ops Q (oi :: rest) a w := h
theorem zl22 (N : Option Tmp) (args : Array Value) (h : Calls Try.prog 22 args w fun e w' => ∃ v, e = .returned v ∧ wpList Try.prog ops Q rest (a.put N v) w') (hd : oi.dst = N := by exact rfl) (hg : oi.guard = none := by exact rfl) (hop : oi.op = .call { callee := .value (.func 22), args := as_, argTypes := ts } := by exact rfl) (hr_ : as_.map a.eval = args := by exact zh) : wpList Try.prog ops Q (oi :: rest) a w := goesL_ N hd hg Try.func22 (by kernel_rfl) rfl args hop hr_ h
theorem zg24 (_ho : oi.op = .call { callee := .value (.func 24), args := as_, argTypes := ts }) (h : wpList P ops Q (oi :: rest) a w) : wpList P ops Q (oi :: rest) a w := h
theorem zl24 (N : Option Tmp) (args : Array Value) (h : Calls Try.prog 24 args w fun e w' => ∃ v, e = .returned v ∧ wpList Try.prog ops Q rest (a.put N v) w') (hd : oi.dst = N := by exact rfl) (hg : oi.guard = none := by exact rfl) (hop : oi.op = .call { callee := .value (.func 24), args := as_, argTypes := ts } := by exact rfl) (hr_ : as_.map a.eval = args := by exact zh) : wpList Try.prog ops Q (oi :: rest) a w := goesL_ N hd hg Try.func24 (by kernel_rfl) rfl args hop hr_ h
theorem zg25 (_ho : oi.op = .call { callee := .value (.func 25), args := as_, argTypes := ts }) (h : wpList P ops Q (oi :: rest) a w) : wpList P ops Q (oi :: rest) a w := h
theorem zl25 (N : Option Tmp) (args : Array Value) (h : Calls Try.prog 25 args w fun e w' => ∃ v, e = .returned v ∧ wpList Try.prog ops Q rest (a.put N v) w') (hd : oi.dst = N := by exact rfl) (hg : oi.guard = none := by exact rfl) (hop : oi.op = .call { callee := .value (.func 25), args := as_, argTypes := ts } := by exact rfl) (hr_ : as_.map a.eval = args := by exact zh) : wpList Try.prog ops Q (oi :: rest) a w := goesL_ N hd hg Try.func25 (by kernel_rfl) rfl args hop hr_ h
theorem zg26 (_ho : oi.op = .call { callee := .value (.func 26), args := as_, argTypes := ts }) (h : wpList P ops Q (oi :: rest) a w) : wpList P ops Q (oi :: rest) a w := h
theorem zl26 (N : Option Tmp) (args : Array Value) (h : Calls Try.prog 26 args w fun e w' => ∃ v, e = .returned v ∧ wpList Try.prog ops Q rest (a.put N v) w') (hd : oi.dst = N := by exact rfl) (hg : oi.guard = none := by exact rfl) (hop : oi.op = .call { callee := .value (.func 26), args := as_, argTypes := ts } := by exact rfl) (hr_ : as_.map a.eval = args := by exact zh) : wpList Try.prog ops Q (oi :: rest) a w := goesL_ N hd hg Try.func26 (by kernel_rfl) rfl args hop hr_ h
theorem zg88 (_ho : oi.op = .call { callee := .value (.func 88), args := as_, argTypes := ts }) (h : wpList P ops Q (oi :: rest) a w) : wpList P ops Q (oi :: rest) a w := h
theorem zl88 (N : Option Tmp) (args : Array Value) (h : Calls Try.prog 88 args w fun e w' => ∃ v, e = .returned v ∧ wpList Try.prog ops Q rest (a.put N v) w') (hd : oi.dst = N := by exact rfl) (hg : oi.guard = none := by exact rfl) (hop : oi.op = .call { callee := .value (.func 88), args := as_, argTypes := ts } := by exact rfl) (hr_ : as_.map a.eval = args := by exact zh) : wpList Try.prog ops Q (oi :: rest) a w := goesL_ N hd hg Try.func88 (by kernel_rfl) rfl args hop hr_ h
theorem zg90 (_ho : oi.op = .call { callee := .value (.func 90), args := as_, argTypes := ts }) (h : wpList P ops Q (oi :: rest) a w) : wpList P ops Q (oi :: rest) a w := h
theorem zl90 (N : Option Tmp) (args : Array Value) (h : Calls Try.prog 90 args w fun e w' => ∃ v, e = .returned v ∧ wpList Try.prog ops Q rest (a.put N v) w') (hd : oi.dst = N := by exact rfl) (hg : oi.guard = none := by exact rfl) (hop : oi.op = .call { callee := .value (.func 90), args := as_, argTypes := ts } := by exact rfl) (hr_ : as_.map a.eval = args := by exact zh) : wpList Try.prog ops Q (oi :: rest) a w := goesL_ N hd hg Try.func90 (by kernel_rfl) rfl args hop hr_ h
theorem zg91 (_ho : oi.op = .call { callee := .value (.func 91), args := as_, argTypes := ts }) (h : wpList P ops Q (oi :: rest) a w) : wpList P ops Q (oi :: rest) a w := h
theorem zl91 (N : Option Tmp) (args : Array Value) (h : Calls Try.prog 91 args w fun e w' => ∃ v, e = .returned v ∧ wpList Try.prog ops Q rest (a.put N v) w') (hd : oi.dst = N := by exact rfl) (hg : oi.guard = none := by exact rfl) (hop : oi.op = .call { callee := .value (.func 91), args := as_, argTypes := ts } := by exact rfl) (hr_ : as_.map a.eval = args := by exact zh) : wpList Try.prog ops Q (oi :: rest) a w := goesL_ N hd hg Try.func91 (by kernel_rfl) rfl args hop hr_ h
theorem zg95 (_ho : oi.op = .call { callee := .value (.func 95), args := as_, argTypes := ts }) (h : wpList P ops Q (oi :: rest) a w) : wpList P ops Q (oi :: rest) a w := h
theorem zl95 (N : Option Tmp) (args : Array Value) (h : Calls Try.prog 95 args w fun e w' => ∃ v, e = .returned v ∧ wpList Try.prog ops Q rest (a.put N v) w') (hd : oi.dst = N := by exact rfl) (hg : oi.guard = none := by exact rfl) (hop : oi.op = .call { callee := .value (.func 95), args := as_, argTypes := ts } := by exact rfl) (hr_ : as_.map a.eval = args := by exact zh) : wpList Try.prog ops Q (oi :: rest) a w := goesL_ N hd hg Try.func95 (by kernel_rfl) rfl args hop hr_ h
theorem zg96 (_ho : oi.op = .call { callee := .value (.func 96), args := as_, argTypes := ts }) (h : wpList P ops Q (oi :: rest) a w) : wpList P ops Q (oi :: rest) a w := h
theorem zl96 (N : Option Tmp) (args : Array Value) (h : Calls Try.prog 96 args w fun e w' => ∃ v, e = .returned v ∧ wpList Try.prog ops Q rest (a.put N v) w') (hd : oi.dst = N := by exact rfl) (hg : oi.guard = none := by exact rfl) (hop : oi.op = .call { callee := .value (.func 96), args := as_, argTypes := ts } := by exact rfl) (hr_ : as_.map a.eval = args := by exact zh) : wpList Try.prog ops Q (oi :: rest) a w := goesL_ N hd hg Try.func96 (by kernel_rfl) rfl args hop hr_ h
theorem zg97 (_ho : oi.op = .call { callee := .value (.func 97), args := as_, argTypes := ts }) (h : wpList P ops Q (oi :: rest) a w) : wpList P ops Q (oi :: rest) a w := h
theorem zl97 (N : Option Tmp) (args : Array Value) (h : Calls Try.prog 97 args w fun e w' => ∃ v, e = .returned v ∧ wpList Try.prog ops Q rest (a.put N v) w') (hd : oi.dst = N := by exact rfl) (hg : oi.guard = none := by exact rfl) (hop : oi.op = .call { callee := .value (.func 97), args := as_, argTypes := ts } := by exact rfl) (hr_ : as_.map a.eval = args := by exact zh) : wpList Try.prog ops Q (oi :: rest) a w := goesL_ N hd hg Try.func97 (by kernel_rfl) rfl args hop hr_ h
theorem zg98 (_ho : oi.op = .call { callee := .value (.func 98), args := as_, argTypes := ts }) (h : wpList P ops Q (oi :: rest) a w) : wpList P ops Q (oi :: rest) a w := h
theorem zl98 (N : Option Tmp) (args : Array Value) (h : Calls Try.prog 98 args w fun e w' => ∃ v, e = .returned v ∧ wpList Try.prog ops Q rest (a.put N v) w') (hd : oi.dst = N := by exact rfl) (hg : oi.guard = none := by exact rfl) (hop : oi.op = .call { callee := .value (.func 98), args := as_, argTypes := ts } := by exact rfl) (hr_ : as_.map a.eval = args := by exact zh) : wpList Try.prog ops Q (oi :: rest) a w := goesL_ N hd hg Try.func98 (by kernel_rfl) rfl args hop hr_ h
theorem zg99 (_ho : oi.op = .call { callee := .value (.func 99), args := as_, argTypes := ts }) (h : wpList P ops Q (oi :: rest) a w) : wpList P ops Q (oi :: rest) a w := h
theorem zl99 (N : Option Tmp) (args : Array Value) (h : Calls Try.prog 99 args w fun e w' => ∃ v, e = .returned v ∧ wpList Try.prog ops Q rest (a.put N v) w') (hd : oi.dst = N := by exact rfl) (hg : oi.guard = none := by exact rfl) (hop : oi.op = .call { callee := .value (.func 99), args := as_, argTypes := ts } := by exact rfl) (hr_ : as_.map a.eval = args := by exact zh) : wpList Try.prog ops Q (oi :: rest) a w := goesL_ N hd hg Try.func99 (by kernel_rfl) rfl args hop hr_ h
theorem zg104 (_ho : oi.op = .call { callee := .value (.func 104), args := as_, argTypes := ts }) (h : wpList P ops Q (oi :: rest) a w) : wpList P ops Q (oi :: rest) a w := h
theorem zl104 (N : Option Tmp) (args : Array Value) (h : Calls Try.prog 104 args w fun e w' => ∃ v, e = .returned v ∧ wpList Try.prog ops Q rest (a.put N v) w') (hd : oi.dst = N := by exact rfl) (hg : oi.guard = none := by exact rfl) (hop : oi.op = .call { callee := .value (.func 104), args := as_, argTypes := ts } := by exact rfl) (hr_ : as_.map a.eval = args := by exact zh) : wpList Try.prog ops Q (oi :: rest) a w := goesL_ N hd hg Try.func104 (by kernel_rfl) rfl args hop hr_ h
theorem zg105 (_ho : oi.op = .call { callee := .value (.func 105), args := as_, argTypes := ts }) (h : wpList P ops Q (oi :: rest) a w) : wpList P ops Q (oi :: rest) a w := h
theorem zl105 (N : Option Tmp) (args : Array Value) (h : Calls Try.prog 105 args w fun e w' => ∃ v, e = .returned v ∧ wpList Try.prog ops Q rest (a.put N v) w') (hd : oi.dst = N := by exact rfl) (hg : oi.guard = none := by exact rfl) (hop : oi.op = .call { callee := .value (.func 105), args := as_, argTypes := ts } := by exact rfl) (hr_ : as_.map a.eval = args := by exact zh) : wpList Try.prog ops Q (oi :: rest) a w := goesL_ N hd hg Try.func105 (by kernel_rfl) rfl args hop hr_ h
theorem zg106 (_ho : oi.op = .call { callee := .value (.func 106), args := as_, argTypes := ts }) (h : wpList P ops Q (oi :: rest) a w) : wpList P ops Q (oi :: rest) a w := h
theorem zl106 (N : Option Tmp) (args : Array Value) (h : Calls Try.prog 106 args w fun e w' => ∃ v, e = .returned v ∧ wpList Try.prog ops Q rest (a.put N v) w') (hd : oi.dst = N := by exact rfl) (hg : oi.guard = none := by exact rfl) (hop : oi.op = .call { callee := .value (.func 106), args := as_, argTypes := ts } := by exact rfl) (hr_ : as_.map a.eval = args := by exact zh) : wpList Try.prog ops Q (oi :: rest) a w := goesL_ N hd hg Try.func106 (by kernel_rfl) rfl args hop hr_ h
theorem zg107 (_ho : oi.op = .call { callee := .value (.func 107), args := as_, argTypes := ts }) (h : wpList P ops Q (oi :: rest) a w) : wpList P ops Q (oi :: rest) a w := h
theorem zl107 (N : Option Tmp) (args : Array Value) (h : Calls Try.prog 107 args w fun e w' => ∃ v, e = .returned v ∧ wpList Try.prog ops Q rest (a.put N v) w') (hd : oi.dst = N := by exact rfl) (hg : oi.guard = none := by exact rfl) (hop : oi.op = .call { callee := .value (.func 107), args := as_, argTypes := ts } := by exact rfl) (hr_ : as_.map a.eval = args := by exact zh) : wpList Try.prog ops Q (oi :: rest) a w := goesL_ N hd hg Try.func107 (by kernel_rfl) rfl args hop hr_ h
theorem zg108 (_ho : oi.op = .call { callee := .value (.func 108), args := as_, argTypes := ts }) (h : wpList P ops Q (oi :: rest) a w) : wpList P ops Q (oi :: rest) a w := h
theorem zl108 (N : Option Tmp) (args : Array Value) (h : Calls Try.prog 108 args w fun e w' => ∃ v, e = .returned v ∧ wpList Try.prog ops Q rest (a.put N v) w') (hd : oi.dst = N := by exact rfl) (hg : oi.guard = none := by exact rfl) (hop : oi.op = .call { callee := .value (.func 108), args := as_, argTypes := ts } := by exact rfl) (hr_ : as_.map a.eval = args := by exact zh) : wpList Try.prog ops Q (oi :: rest) a w := goesL_ N hd hg Try.func108 (by kernel_rfl) rfl args hop hr_ h
theorem zg109 (_ho : oi.op = .call { callee := .value (.func 109), args := as_, argTypes := ts }) (h : wpList P ops Q (oi :: rest) a w) : wpList P ops Q (oi :: rest) a w := h
theorem zl109 (N : Option Tmp) (args : Array Value) (h : Calls Try.prog 109 args w fun e w' => ∃ v, e = .returned v ∧ wpList Try.prog ops Q rest (a.put N v) w') (hd : oi.dst = N := by exact rfl) (hg : oi.guard = none := by exact rfl) (hop : oi.op = .call { callee := .value (.func 109), args := as_, argTypes := ts } := by exact rfl) (hr_ : as_.map a.eval = args := by exact zh) : wpList Try.prog ops Q (oi :: rest) a w := goesL_ N hd hg Try.func109 (by kernel_rfl) rfl args hop hr_ h
theorem zg111 (_ho : oi.op = .call { callee := .value (.func 111), args := as_, argTypes := ts }) (h : wpList P ops Q (oi :: rest) a w) : wpList P ops Q (oi :: rest) a w := h
theorem zl111 (N : Option Tmp) (args : Array Value) (h : Calls Try.prog 111 args w fun e w' => ∃ v, e = .returned v ∧ wpList Try.prog ops Q rest (a.put N v) w') (hd : oi.dst = N := by exact rfl) (hg : oi.guard = none := by exact rfl) (hop : oi.op = .call { callee := .value (.func 111), args := as_, argTypes := ts } := by exact rfl) (hr_ : as_.map a.eval = args := by exact zh) : wpList Try.prog ops Q (oi :: rest) a w := goesL_ N hd hg Try.func111 (by kernel_rfl) rfl args hop hr_ h
theorem zg112 (_ho : oi.op = .call { callee := .value (.func 112), args := as_, argTypes := ts }) (h : wpList P ops Q (oi :: rest) a w) : wpList P ops Q (oi :: rest) a w := h
theorem zl112 (N : Option Tmp) (args : Array Value) (h : Calls Try.prog 112 args w fun e w' => ∃ v, e = .returned v ∧ wpList Try.prog ops Q rest (a.put N v) w') (hd : oi.dst = N := by exact rfl) (hg : oi.guard = none := by exact rfl) (hop : oi.op = .call { callee := .value (.func 112), args := as_, argTypes := ts } := by exact rfl) (hr_ : as_.map a.eval = args := by exact zh) : wpList Try.prog ops Q (oi :: rest) a w := goesL_ N hd hg Try.func112 (by kernel_rfl) rfl args hop hr_ h
theorem zg113 (_ho : oi.op = .call { callee := .value (.func 113), args := as_, argTypes := ts }) (h : wpList P ops Q (oi :: rest) a w) : wpList P ops Q (oi :: rest) a w := h
theorem zl113 (N : Option Tmp) (args : Array Value) (h : Calls Try.prog 113 args w fun e w' => ∃ v, e = .returned v ∧ wpList Try.prog ops Q rest (a.put N v) w') (hd : oi.dst = N := by exact rfl) (hg : oi.guard = none := by exact rfl) (hop : oi.op = .call { callee := .value (.func 113), args := as_, argTypes := ts } := by exact rfl) (hr_ : as_.map a.eval = args := by exact zh) : wpList Try.prog ops Q (oi :: rest) a w := goesL_ N hd hg Try.func113 (by kernel_rfl) rfl args hop hr_ h
theorem zg114 (_ho : oi.op = .call { callee := .value (.func 114), args := as_, argTypes := ts }) (h : wpList P ops Q (oi :: rest) a w) : wpList P ops Q (oi :: rest) a w := h
theorem zl114 (N : Option Tmp) (args : Array Value) (h : Calls Try.prog 114 args w fun e w' => ∃ v, e = .returned v ∧ wpList Try.prog ops Q rest (a.put N v) w') (hd : oi.dst = N := by exact rfl) (hg : oi.guard = none := by exact rfl) (hop : oi.op = .call { callee := .value (.func 114), args := as_, argTypes := ts } := by exact rfl) (hr_ : as_.map a.eval = args := by exact zh) : wpList Try.prog ops Q (oi :: rest) a w := goesL_ N hd hg Try.func114 (by kernel_rfl) rfl args hop hr_ h
theorem zg121 (_ho : oi.op = .call { callee := .value (.func 121), args := as_, argTypes := ts }) (h : wpList P ops Q (oi :: rest) a w) : wpList P ops Q (oi :: rest) a w := h
theorem zl121 (N : Option Tmp) (args : Array Value) (h : Calls Try.prog 121 args w fun e w' => ∃ v, e = .returned v ∧ wpList Try.prog ops Q rest (a.put N v) w') (hd : oi.dst = N := by exact rfl) (hg : oi.guard = none := by exact rfl) (hop : oi.op = .call { callee := .value (.func 121), args := as_, argTypes := ts } := by exact rfl) (hr_ : as_.map a.eval = args := by exact zh) : wpList Try.prog ops Q (oi :: rest) a w := goesL_ N hd hg Try.func121 (by kernel_rfl) rfl args hop hr_ h
theorem zg122 (_ho : oi.op = .call { callee := .value (.func 122), args := as_, argTypes := ts }) (h : wpList P ops Q (oi :: rest) a w) : wpList P ops Q (oi :: rest) a w := h
theorem zl122 (N : Option Tmp) (args : Array Value) (h : Calls Try.prog 122 args w fun e w' => ∃ v, e = .returned v ∧ wpList Try.prog ops Q rest (a.put N v) w') (hd : oi.dst = N := by exact rfl) (hg : oi.guard = none := by exact rfl) (hop : oi.op = .call { callee := .value (.func 122), args := as_, argTypes := ts } := by exact rfl) (hr_ : as_.map a.eval = args := by exact zh) : wpList Try.prog ops Q (oi :: rest) a w := goesL_ N hd hg Try.func122 (by kernel_rfl) rfl args hop hr_ h
theorem zg123 (_ho : oi.op = .call { callee := .value (.func 123), args := as_, argTypes := ts }) (h : wpList P ops Q (oi :: rest) a w) : wpList P ops Q (oi :: rest) a w := h
theorem zl123 (N : Option Tmp) (args : Array Value) (h : Calls Try.prog 123 args w fun e w' => ∃ v, e = .returned v ∧ wpList Try.prog ops Q rest (a.put N v) w') (hd : oi.dst = N := by exact rfl) (hg : oi.guard = none := by exact rfl) (hop : oi.op = .call { callee := .value (.func 123), args := as_, argTypes := ts } := by exact rfl) (hr_ : as_.map a.eval = args := by exact zh) : wpList Try.prog ops Q (oi :: rest) a w := goesL_ N hd hg Try.func123 (by kernel_rfl) rfl args hop hr_ h
theorem zg124 (_ho : oi.op = .call { callee := .value (.func 124), args := as_, argTypes := ts }) (h : wpList P ops Q (oi :: rest) a w) : wpList P ops Q (oi :: rest) a w := h
theorem zl124 (N : Option Tmp) (args : Array Value) (h : Calls Try.prog 124 args w fun e w' => ∃ v, e = .returned v ∧ wpList Try.prog ops Q rest (a.put N v) w') (hd : oi.dst = N := by exact rfl) (hg : oi.guard = none := by exact rfl) (hop : oi.op = .call { callee := .value (.func 124), args := as_, argTypes := ts } := by exact rfl) (hr_ : as_.map a.eval = args := by exact zh) : wpList Try.prog ops Q (oi :: rest) a w := goesL_ N hd hg Try.func124 (by kernel_rfl) rfl args hop hr_ h
theorem zg125 (_ho : oi.op = .call { callee := .value (.func 125), args := as_, argTypes := ts }) (h : wpList P ops Q (oi :: rest) a w) : wpList P ops Q (oi :: rest) a w := h
theorem zl125 (N : Option Tmp) (args : Array Value) (h : Calls Try.prog 125 args w fun e w' => ∃ v, e = .returned v ∧ wpList Try.prog ops Q rest (a.put N v) w') (hd : oi.dst = N := by exact rfl) (hg : oi.guard = none := by exact rfl) (hop : oi.op = .call { callee := .value (.func 125), args := as_, argTypes := ts } := by exact rfl) (hr_ : as_.map a.eval = args := by exact zh) : wpList Try.prog ops Q (oi :: rest) a w := goesL_ N hd hg Try.func125 (by kernel_rfl) rfl args hop hr_ h
theorem zg126 (_ho : oi.op = .call { callee := .value (.func 126), args := as_, argTypes := ts }) (h : wpList P ops Q (oi :: rest) a w) : wpList P ops Q (oi :: rest) a w := h
theorem zl126 (N : Option Tmp) (args : Array Value) (h : Calls Try.prog 126 args w fun e w' => ∃ v, e = .returned v ∧ wpList Try.prog ops Q rest (a.put N v) w') (hd : oi.dst = N := by exact rfl) (hg : oi.guard = none := by exact rfl) (hop : oi.op = .call { callee := .value (.func 126), args := as_, argTypes := ts } := by exact rfl) (hr_ : as_.map a.eval = args := by exact zh) : wpList Try.prog ops Q (oi :: rest) a w := goesL_ N hd hg Try.func126 (by kernel_rfl) rfl args hop hr_ h
theorem zg131 (_ho : oi.op = .call { callee := .value (.func 131), args := as_, argTypes := ts }) (h : wpList P ops Q (oi :: rest) a w) : wpList P ops Q (oi :: rest) a w := h
theorem zl131 (N : Option Tmp) (args : Array Value) (h : Calls Try.prog 131 args w fun e w' => ∃ v, e = .returned v ∧ wpList Try.prog ops Q rest (a.put N v) w') (hd : oi.dst = N := by exact rfl) (hg : oi.guard = none := by exact rfl) (hop : oi.op = .call { callee := .value (.func 131), args := as_, argTypes := ts } := by exact rfl) (hr_ : as_.map a.eval = args := by exact zh) : wpList Try.prog ops Q (oi :: rest) a w := goesL_ N hd hg Try.func131 (by kernel_rfl) rfl args hop hr_ h
theorem zg140 (_ho : oi.op = .call { callee := .value (.func 140), args := as_, argTypes := ts }) (h : wpList P ops Q (oi :: rest) a w) : wpList P ops Q (oi :: rest) a w := h
theorem zl140 (N : Option Tmp) (args : Array Value) (h : Calls Try.prog 140 args w fun e w' => ∃ v, e = .returned v ∧ wpList Try.prog ops Q rest (a.put N v) w') (hd : oi.dst = N := by exact rfl) (hg : oi.guard = none := by exact rfl) (hop : oi.op = .call { callee := .value (.func 140), args := as_, argTypes := ts } := by exact rfl) (hr_ : as_.map a.eval = args := by exact zh) : wpList Try.prog ops Q (oi :: rest) a w := goesL_ N hd hg Try.func140 (by kernel_rfl) rfl args hop hr_ h
theorem zg150 (_ho : oi.op = .call { callee := .value (.func 150), args := as_, argTypes := ts }) (h : wpList P ops Q (oi :: rest) a w) : wpList P ops Q (oi :: rest) a w := h
theorem zl150 (N : Option Tmp) (args : Array Value) (h : Calls Try.prog 150 args w fun e w' => ∃ v, e = .returned v ∧ wpList Try.prog ops Q rest (a.put N v) w') (hd : oi.dst = N := by exact rfl) (hg : oi.guard = none := by exact rfl) (hop : oi.op = .call { callee := .value (.func 150), args := as_, argTypes := ts } := by exact rfl) (hr_ : as_.map a.eval = args := by exact zh) : wpList Try.prog ops Q (oi :: rest) a w := goesL_ N hd hg Try.func150 (by kernel_rfl) rfl args hop hr_ h
theorem zg152 (_ho : oi.op = .call { callee := .value (.func 152), args := as_, argTypes := ts }) (h : wpList P ops Q (oi :: rest) a w) : wpList P ops Q (oi :: rest) a w := h
theorem zl152 (N : Option Tmp) (args : Array Value) (h : Calls Try.prog 152 args w fun e w' => ∃ v, e = .returned v ∧ wpList Try.prog ops Q rest (a.put N v) w') (hd : oi.dst = N := by exact rfl) (hg : oi.guard = none := by exact rfl) (hop : oi.op = .call { callee := .value (.func 152), args := as_, argTypes := ts } := by exact rfl) (hr_ : as_.map a.eval = args := by exact zh) : wpList Try.prog ops Q (oi :: rest) a w := goesL_ N hd hg Try.func152 (by kernel_rfl) rfl args hop hr_ h
theorem zg153 (_ho : oi.op = .call { callee := .value (.func 153), args := as_, argTypes := ts }) (h : wpList P ops Q (oi :: rest) a w) : wpList P ops Q (oi :: rest) a w := h
theorem zl153 (N : Option Tmp) (args : Array Value) (h : Calls Try.prog 153 args w fun e w' => ∃ v, e = .returned v ∧ wpList Try.prog ops Q rest (a.put N v) w') (hd : oi.dst = N := by exact rfl) (hg : oi.guard = none := by exact rfl) (hop : oi.op = .call { callee := .value (.func 153), args := as_, argTypes := ts } := by exact rfl) (hr_ : as_.map a.eval = args := by exact zh) : wpList Try.prog ops Q (oi :: rest) a w := goesL_ N hd hg Try.func153 (by kernel_rfl) rfl args hop hr_ h
theorem zg155 (_ho : oi.op = .call { callee := .value (.func 155), args := as_, argTypes := ts }) (h : wpList P ops Q (oi :: rest) a w) : wpList P ops Q (oi :: rest) a w := h
theorem zl155 (N : Option Tmp) (args : Array Value) (h : Calls Try.prog 155 args w fun e w' => ∃ v, e = .returned v ∧ wpList Try.prog ops Q rest (a.put N v) w') (hd : oi.dst = N := by exact rfl) (hg : oi.guard = none := by exact rfl) (hop : oi.op = .call { callee := .value (.func 155), args := as_, argTypes := ts } := by exact rfl) (hr_ : as_.map a.eval = args := by exact zh) : wpList Try.prog ops Q (oi :: rest) a w := goesL_ N hd hg Try.func155 (by kernel_rfl) rfl args hop hr_ h
theorem zg156 (_ho : oi.op = .call { callee := .value (.func 156), args := as_, argTypes := ts }) (h : wpList P ops Q (oi :: rest) a w) : wpList P ops Q (oi :: rest) a w := h
theorem zl156 (N : Option Tmp) (args : Array Value) (h : Calls Try.prog 156 args w fun e w' => ∃ v, e = .returned v ∧ wpList Try.prog ops Q rest (a.put N v) w') (hd : oi.dst = N := by exact rfl) (hg : oi.guard = none := by exact rfl) (hop : oi.op = .call { callee := .value (.func 156), args := as_, argTypes := ts } := by exact rfl) (hr_ : as_.map a.eval = args := by exact zh) : wpList Try.prog ops Q (oi :: rest) a w := goesL_ N hd hg Try.func156 (by kernel_rfl) rfl args hop hr_ h
theorem zg168 (_ho : oi.op = .call { callee := .value (.func 168), args := as_, argTypes := ts }) (h : wpList P ops Q (oi :: rest) a w) : wpList P ops Q (oi :: rest) a w := h
theorem zl168 (N : Option Tmp) (args : Array Value) (h : Calls Try.prog 168 args w fun e w' => ∃ v, e = .returned v ∧ wpList Try.prog ops Q rest (a.put N v) w') (hd : oi.dst = N := by exact rfl) (hg : oi.guard = none := by exact rfl) (hop : oi.op = .call { callee := .value (.func 168), args := as_, argTypes := ts } := by exact rfl) (hr_ : as_.map a.eval = args := by exact zh) : wpList Try.prog ops Q (oi :: rest) a w := goesL_ N hd hg Try.func168 (by kernel_rfl) rfl args hop hr_ h
theorem zg170 (_ho : oi.op = .call { callee := .value (.func 170), args := as_, argTypes := ts }) (h : wpList P ops Q (oi :: rest) a w) : wpList P ops Q (oi :: rest) a w := h
theorem zl170 (N : Option Tmp) (args : Array Value) (h : Calls Try.prog 170 args w fun e w' => ∃ v, e = .returned v ∧ wpList Try.prog ops Q rest (a.put N v) w') (hd : oi.dst = N := by exact rfl) (hg : oi.guard = none := by exact rfl) (hop : oi.op = .call { callee := .value (.func 170), args := as_, argTypes := ts } := by exact rfl) (hr_ : as_.map a.eval = args := by exact zh) : wpList Try.prog ops Q (oi :: rest) a w := goesL_ N hd hg Try.func170 (by kernel_rfl) rfl args hop hr_ h
theorem zg171 (_ho : oi.op = .call { callee := .value (.func 171), args := as_, argTypes := ts }) (h : wpList P ops Q (oi :: rest) a w) : wpList P ops Q (oi :: rest) a w := h
theorem zl171 (N : Option Tmp) (args : Array Value) (h : Calls Try.prog 171 args w fun e w' => ∃ v, e = .returned v ∧ wpList Try.prog ops Q rest (a.put N v) w') (hd : oi.dst = N := by exact rfl) (hg : oi.guard = none := by exact rfl) (hop : oi.op = .call { callee := .value (.func 171), args := as_, argTypes := ts } := by exact rfl) (hr_ : as_.map a.eval = args := by exact zh) : wpList Try.prog ops Q (oi :: rest) a w := goesL_ N hd hg Try.func171 (by kernel_rfl) rfl args hop hr_ h
theorem zg174 (_ho : oi.op = .call { callee := .value (.func 174), args := as_, argTypes := ts }) (h : wpList P ops Q (oi :: rest) a w) : wpList P ops Q (oi :: rest) a w := h
theorem zl174 (N : Option Tmp) (args : Array Value) (h : Calls Try.prog 174 args w fun e w' => ∃ v, e = .returned v ∧ wpList Try.prog ops Q rest (a.put N v) w') (hd : oi.dst = N := by exact rfl) (hg : oi.guard = none := by exact rfl) (hop : oi.op = .call { callee := .value (.func 174), args := as_, argTypes := ts } := by exact rfl) (hr_ : as_.map a.eval = args := by exact zh) : wpList Try.prog ops Q (oi :: rest) a w := goesL_ N hd hg Try.func174 (by kernel_rfl) rfl args hop hr_ h
theorem zg175 (_ho : oi.op = .call { callee := .value (.func 175), args := as_, argTypes := ts }) (h : wpList P ops Q (oi :: rest) a w) : wpList P ops Q (oi :: rest) a w := h
theorem zl175 (N : Option Tmp) (args : Array Value) (h : Calls Try.prog 175 args w fun e w' => ∃ v, e = .returned v ∧ wpList Try.prog ops Q rest (a.put N v) w') (hd : oi.dst = N := by exact rfl) (hg : oi.guard = none := by exact rfl) (hop : oi.op = .call { callee := .value (.func 175), args := as_, argTypes := ts } := by exact rfl) (hr_ : as_.map a.eval = args := by exact zh) : wpList Try.prog ops Q (oi :: rest) a w := goesL_ N hd hg Try.func175 (by kernel_rfl) rfl args hop hr_ h
theorem zg176 (_ho : oi.op = .call { callee := .value (.func 176), args := as_, argTypes := ts }) (h : wpList P ops Q (oi :: rest) a w) : wpList P ops Q (oi :: rest) a w := h
theorem zl176 (N : Option Tmp) (args : Array Value) (h : Calls Try.prog 176 args w fun e w' => ∃ v, e = .returned v ∧ wpList Try.prog ops Q rest (a.put N v) w') (hd : oi.dst = N := by exact rfl) (hg : oi.guard = none := by exact rfl) (hop : oi.op = .call { callee := .value (.func 176), args := as_, argTypes := ts } := by exact rfl) (hr_ : as_.map a.eval = args := by exact zh) : wpList Try.prog ops Q (oi :: rest) a w := goesL_ N hd hg Try.func176 (by kernel_rfl) rfl args hop hr_ h
theorem zg179 (_ho : oi.op = .call { callee := .value (.func 179), args := as_, argTypes := ts }) (h : wpList P ops Q (oi :: rest) a w) : wpList P ops Q (oi :: rest) a w := h
theorem zl179 (N : Option Tmp) (args : Array Value) (h : Calls Try.prog 179 args w fun e w' => ∃ v, e = .returned v ∧ wpList Try.prog ops Q rest (a.put N v) w') (hd : oi.dst = N := by exact rfl) (hg : oi.guard = none := by exact rfl) (hop : oi.op = .call { callee := .value (.func 179), args := as_, argTypes := ts } := by exact rfl) (hr_ : as_.map a.eval = args := by exact zh) : wpList Try.prog ops Q (oi :: rest) a w := goesL_ N hd hg Try.func179 (by kernel_rfl) rfl args hop hr_ h
theorem zg180 (_ho : oi.op = .call { callee := .value (.func 180), args := as_, argTypes := ts }) (h : wpList P ops Q (oi :: rest) a w) : wpList P ops Q (oi :: rest) a w := h
theorem zl180 (N : Option Tmp) (args : Array Value) (h : Calls Try.prog 180 args w fun e w' => ∃ v, e = .returned v ∧ wpList Try.prog ops Q rest (a.put N v) w') (hd : oi.dst = N := by exact rfl) (hg : oi.guard = none := by exact rfl) (hop : oi.op = .call { callee := .value (.func 180), args := as_, argTypes := ts } := by exact rfl) (hr_ : as_.map a.eval = args := by exact zh) : wpList Try.prog ops Q (oi :: rest) a w := goesL_ N hd hg Try.func180 (by kernel_rfl) rfl args hop hr_ h
theorem zg181 (_ho : oi.op = .call { callee := .value (.func 181), args := as_, argTypes := ts }) (h : wpList P ops Q (oi :: rest) a w) : wpList P ops Q (oi :: rest) a w := h
theorem zl181 (N : Option Tmp) (args : Array Value) (h : Calls Try.prog 181 args w fun e w' => ∃ v, e = .returned v ∧ wpList Try.prog ops Q rest (a.put N v) w') (hd : oi.dst = N := by exact rfl) (hg : oi.guard = none := by exact rfl) (hop : oi.op = .call { callee := .value (.func 181), args := as_, argTypes := ts } := by exact rfl) (hr_ : as_.map a.eval = args := by exact zh) : wpList Try.prog ops Q (oi :: rest) a w := goesL_ N hd hg Try.func181 (by kernel_rfl) rfl args hop hr_ h
theorem zg183 (_ho : oi.op = .call { callee := .value (.func 183), args := as_, argTypes := ts }) (h : wpList P ops Q (oi :: rest) a w) : wpList P ops Q (oi :: rest) a w := h
theorem zl183 (N : Option Tmp) (args : Array Value) (h : Calls Try.prog 183 args w fun e w' => ∃ v, e = .returned v ∧ wpList Try.prog ops Q rest (a.put N v) w') (hd : oi.dst = N := by exact rfl) (hg : oi.guard = none := by exact rfl) (hop : oi.op = .call { callee := .value (.func 183), args := as_, argTypes := ts } := by exact rfl) (hr_ : as_.map a.eval = args := by exact zh) : wpList Try.prog ops Q (oi :: rest) a w := goesL_ N hd hg Try.func183 (by kernel_rfl) rfl args hop hr_ h
theorem zg184 (_ho : oi.op = .call { callee := .value (.func 184), args := as_, argTypes := ts }) (h : wpList P ops Q (oi :: rest) a w) : wpList P ops Q (oi :: rest) a w := h
theorem zl184 (N : Option Tmp) (args : Array Value) (h : Calls Try.prog 184 args w fun e w' => ∃ v, e = .returned v ∧ wpList Try.prog ops Q rest (a.put N v) w') (hd : oi.dst = N := by exact rfl) (hg : oi.guard = none := by exact rfl) (hop : oi.op = .call { callee := .value (.func 184), args := as_, argTypes := ts } := by exact rfl) (hr_ : as_.map a.eval = args := by exact zh) : wpList Try.prog ops Q (oi :: rest) a w := goesL_ N hd hg Try.func184 (by kernel_rfl) rfl args hop hr_ h
theorem zg185 (_ho : oi.op = .call { callee := .value (.func 185), args := as_, argTypes := ts }) (h : wpList P ops Q (oi :: rest) a w) : wpList P ops Q (oi :: rest) a w := h
theorem zl185 (N : Option Tmp) (args : Array Value) (h : Calls Try.prog 185 args w fun e w' => ∃ v, e = .returned v ∧ wpList Try.prog ops Q rest (a.put N v) w') (hd : oi.dst = N := by exact rfl) (hg : oi.guard = none := by exact rfl) (hop : oi.op = .call { callee := .value (.func 185), args := as_, argTypes := ts } := by exact rfl) (hr_ : as_.map a.eval = args := by exact zh) : wpList Try.prog ops Q (oi :: rest) a w := goesL_ N hd hg Try.func185 (by kernel_rfl) rfl args hop hr_ h
theorem zg191 (_ho : oi.op = .call { callee := .value (.func 191), args := as_, argTypes := ts }) (h : wpList P ops Q (oi :: rest) a w) : wpList P ops Q (oi :: rest) a w := h
theorem zl191 (N : Option Tmp) (args : Array Value) (h : Calls Try.prog 191 args w fun e w' => ∃ v, e = .returned v ∧ wpList Try.prog ops Q rest (a.put N v) w') (hd : oi.dst = N := by exact rfl) (hg : oi.guard = none := by exact rfl) (hop : oi.op = .call { callee := .value (.func 191), args := as_, argTypes := ts } := by exact rfl) (hr_ : as_.map a.eval = args := by exact zh) : wpList Try.prog ops Q (oi :: rest) a w := goesL_ N hd hg Try.func191 (by kernel_rfl) rfl args hop hr_ h
end
theorem zyk {md : Region.Mode} {ops : Array Oper} {Q : Exit → Act → World → Prop} {S : World → Prop} {ds : List Nat} {oi : Oper} {v : Value} {fuel : Nat} {l : Array Bool} {a a' : Act} {w : World} (i N : Nat) (l' : Array Bool) (h : wpAnyLast Try.prog md ops Q S ds fuel l' a' w) (hi : ops[i]? = some oi := by exact rfl) (hN : oi.dst = some N := by exact rfl) (hw : Region.wanted oi (yielded ops a.tmps) = true := by rfl) (hc : anyB md ops l l' i = true := by kernel_rfl) (hy : ∀ w', (execOp a.eval oi).run Try.prog w' = .ok (.value v) w' := by (intro w'; go_simp; with_reducible rfl)) (hQ : ∀ c a w, Q (.panic c) (a.put oi.dst v) w → Q (.panic c) a w := by exact fun _ _ _ h => h) (ha : a.put (some N) v = a' := by (simp only [Act.put, List.setIfInBounds_toArray, List.set_cons_zero, List.set_cons_succ, i64_w, i32_w]; rfl)) : wpAnyLast Try.prog md ops Q S ds (fuel + 1) l a w := pure_ l' hi hN hc hQ (Or.inl ⟨hw, hy⟩) ha h
theorem zyt {md : Region.Mode} {ops : Array Oper} {Q : Exit → Act → World → Prop} {S : World → Prop} {ds : List Nat} {oi : Oper} {v : Value} {fuel : Nat} {l : Array Bool} {a a' : Act} {w : World} (i N : Nat) (l' : Array Bool) (h : wpAnyLast Try.prog md ops Q S ds fuel l' a' w) (hi : ops[i]? = some oi := by exact rfl) (hN : oi.dst = some N := by exact rfl) (hw : Region.wanted oi (yielded ops a.tmps) = true := by rfl) (hc : anyB md ops l l' i = true := by exact any_of HT_.out (by kernel_rfl)) (hy : ∀ w', (execOp a.eval oi).run Try.prog w' = .ok (.value v) w' := by (intro w'; go_simp; with_reducible rfl)) (hQ : ∀ c a w, Q (.panic c) (a.put oi.dst v) w → Q (.panic c) a w := by exact fun _ _ _ h => h) (ha : a.put (some N) v = a' := by (simp only [Act.put, List.setIfInBounds_toArray, List.set_cons_zero, List.set_cons_succ, i64_w, i32_w]; rfl)) : wpAnyLast Try.prog md ops Q S ds (fuel + 1) l a w := pure_ l' hi hN hc hQ (Or.inl ⟨hw, hy⟩) ha h
theorem zcl {w w' : World} {p : Addr} {v : Value} (hb : Below w.heap.size w w') (h : w.cell? p = some v) : w'.cell? p = some v := (hb.cell (World.block_lt_of_cell? w _ h)).trans h
theorem zbk {q p : Prop} (f : q) (e_ : q → p := by intro h_; (with_reducible repeat (first | refine blk_drewN ?_ _ | refine blk_drew ?_ | refine blk_alloc ?_ _)); exact h_) : p := e_ f
theorem zrk {q p : Prop} (f : q) (e_ : q → p := by intro h_; (with_reducible repeat (first | apply Kd.R_alloc | apply Kd.R_drewN | apply Kd.R_drew)); exact h_) : p := e_ f
theorem zsk {q p : Prop} (f : q) (e_ : q → p := by intro h_; (with_reducible repeat (first | apply Kd.S_alloc | apply Kd.S_drewN | apply Kd.S_drew)); exact h_) : p := e_ f
theorem zNd {α : Type} {c : Prop} {i : Decidable c} {x : Option α} {r : α} (h : Aside0 ((if c then x else none) = some r)) : decide c = true ∧ Aside0 (x = some r) := (zN h).imp decide_eq_true id
theorem zMd {α : Type} {c : Prop} {i : Decidable c} {x : Option α} {r : α} (h : Aside0 ((if c then none else x) = some r)) : decide c = false ∧ Aside0 (x = some r) := (zM h).imp decide_eq_false id
theorem zPd {α : Type} {c : Prop} {i : Decidable c} {x y : Option α} {r : α} (h : Aside0 ((if c then x else y) = some r)) : (decide c = true ∧ Aside0 (x = some r)) ∨ (decide c = false ∧ Aside0 (y = some r)) := (zP h).imp (And.imp decide_eq_true id) (And.imp decide_eq_false id)
theorem zNq {α : Type} {a b : Int} {i : Decidable (a = b)} {x : Option α} {r : α} (h : Aside0 ((if a = b then x else none) = some r)) : (a == b) = true ∧ (a != b) = false ∧ Aside0 (x = some r) := ⟨beq_iff_eq.mpr (zN h).1, bne_eq_false_iff_eq.mpr (zN h).1, (zN h).2⟩
theorem zMq {α : Type} {a b : Int} {i : Decidable (a = b)} {x : Option α} {r : α} (h : Aside0 ((if a = b then none else x) = some r)) : (a == b) = false ∧ (a != b) = true ∧ Aside0 (x = some r) := ⟨beq_eq_false_iff_ne.mpr (zM h).1, bne_iff_ne.mpr (zM h).1, (zM h).2⟩
theorem zPq {α : Type} {a b : Int} {i : Decidable (a = b)} {x y : Option α} {r : α} (h : Aside0 ((if a = b then x else y) = some r)) : ((a == b) = true ∧ (a != b) = false ∧ Aside0 (x = some r)) ∨ ((a == b) = false ∧ (a != b) = true ∧ Aside0 (y = some r)) := (zP h).imp (fun z => ⟨beq_iff_eq.mpr z.1, bne_eq_false_iff_eq.mpr z.1, z.2⟩) (fun z => ⟨beq_eq_false_iff_ne.mpr z.1, bne_iff_ne.mpr z.1, z.2⟩)
theorem zi {α : Type} {a b : α} (h : Aside0 (some a = some b)) : a = b := Option.some.inj h.out
theorem zn {a b : Nat} (h : Aside0 (a ≠ b)) : a ≠ b ∧ b ≠ a := ⟨h.out, h.out.symm⟩
theorem zvs : (∀ (a : Act) (d : Tmp) (v : Value), a.put (some d) v = { a with tmps := a.tmps.setIfInBounds d v }) ∧ (∀ (a : Act) (v : Value), a.put none v = a) ∧ (∀ (l : List Value) (i : Nat) (v : Value), l.toArray.setIfInBounds i v = (l.set i v).toArray) ∧ (∀ (l : List Value) (x v : Value), (x :: l).set 0 v = v :: l) ∧ (∀ (l : List Value) (x v : Value) (i : Nat), (x :: l).set (i + 1) v = x :: l.set i v) := ⟨fun _ _ _ => rfl, fun _ _ => rfl, fun _ _ _ => List.setIfInBounds_toArray .., fun _ _ _ => rfl, fun _ _ _ _ => rfl⟩
theorem zdd {p : Prop} (h : p := by first | exact ⟨rfl, _, World.drewN_drewN _ _ _⟩ | exact ⟨rfl, _, Eq.trans (World.drewN_drewN _ _ _) (congrArg (World.drewN _) (Nat.add_assoc _ _ _))⟩) : p := h
theorem zgs {p : Prop} (h : p := by first | (go_simp; done) | (go_simp; rfl)) : p := h
theorem zck {q p : Prop} (f : q) (e_ : q → p := by intro h_; repeat (first | exact h_ | (with_reducible refine Kd.C_alloc ?_ _) | (with_reducible refine Kd.C_drewN ?_ _) | (with_reducible refine Kd.C_drew ?_))) : p := e_ f
theorem zbf {q p : Prop} (f : q) (e_ : q → p := by intro h_; (with_reducible repeat (first | refine blk_drewN ?_ _ | refine blk_drew ?_ | refine blk_alloc ?_ _ | refine blk_far ?_ (Aside0.out (by assumption)) _)); exact h_) : p := e_ f
theorem zpt {w : World} {g i : Nat} {v : Value} {t : TypeId} {cs : Array Value} (h : w.heap[g]? = some (.cells cs t (0, 0))) : (w.setCell ⟨g, i, none⟩ v).heap[g]? = some (.cells (cs.setIfInBounds i v) t (0, 0)) := blk_put h i v rfl
theorem zpc {w : World} {g : Nat} {t : TypeId} {cs cs' : Array Value} (h : w.heap[g]? = some (.cells cs t (0, 0))) (e : cs = cs') : w.heap[g]? = some (.cells cs' t (0, 0)) := e ▸ h
theorem zbp {q p : Prop} (f : q) (e_ : q → p := by intro h_; apply zpc; (with_reducible repeat (first | exact h_ | refine blk_drewN ?_ _ | refine blk_drew ?_ | refine blk_alloc ?_ _ | apply zpt | apply blk_far | exact Aside0.out (by assumption))); rfl) : p := e_ f
theorem zwf {w w1 w2 : World} {g : Nat} {o : Obj} (hW : w1 = w2) (f : w.heap[g]? = some o) (e_ : w.heap[g]? = some o → w2.heap[g]? = some o := by intro h_; (with_reducible repeat (first | refine blk_drewN ?_ _ | refine blk_drew ?_ | refine blk_alloc ?_ _ | refine blk_far ?_ (Aside0.out (by assumption)) _)); exact h_) : w1.heap[g]? = some o := hW ▸ e_ f
theorem zwp {w w1 w2 : World} {g : Nat} {o o' : Obj} (hW : w1 = w2) (f : w.heap[g]? = some o) (e_ : w.heap[g]? = some o → w2.heap[g]? = some o' := by intro h_; apply zpc; (with_reducible repeat (first | exact h_ | refine blk_drewN ?_ _ | refine blk_drew ?_ | refine blk_alloc ?_ _ | apply zpt | apply blk_far | exact Aside0.out (by assumption))); rfl) : w1.heap[g]? = some o' := hW ▸ e_ f
theorem zwh {w w' w1 w2 : World} (hW : w1 = w2) (f : Below w.heap.size w w') (e_ : Below w.heap.size w w' → Below w.heap.size w w2 := by intro h_; repeat (first | (with_reducible first | exact h_ | apply below_alloc | apply pw_below_drewN | apply below_drew1 | refine below_set ?_ (Aside0.out (by assumption))) | exact h_)) : Below w.heap.size w w1 := hW ▸ e_ f
theorem znl {w w' : World} {g g' : Nat} {o : Obj} (f : w'.heap[g]? = some o) (hg : g' = w.heap.size) (e_ : w'.heap[g]? = some o → w.heap[g]? = some o := by intro h_; (with_reducible repeat (first | refine blk_drewN ?_ _ | refine blk_drew ?_ | refine blk_alloc ?_ _ | refine blk_far ?_ (Aside0.out (by assumption)) _)); exact h_) : g ≠ g' := hg ▸ Nat.ne_of_lt (blk_lt (e_ f))
theorem zng {w w' : World} {g g' : Nat} {o : Obj} (f : w'.heap[g]? = some o) (hg : g' = w.heap.size) (e_ : w'.heap[g]? = some o → w.heap[g]? = some o := by intro h_; (with_reducible repeat (first | refine blk_drewN ?_ _ | refine blk_drew ?_ | refine blk_alloc ?_ _ | refine blk_far ?_ (Aside0.out (by assumption)) _)); exact h_) : g' ≠ g := hg ▸ Nat.ne_of_gt (blk_lt (e_ f))
def zl : Nat → Nat → List Bool
  | 0, _ => []
  | n + 1, m => (m % 2 == 1) :: zl n (m / 2)
def zv (n m : Nat) : Array Bool := ⟨zl n m⟩
theorem zt2 {α0 : Type} {a0 b0 : α0} {α1 : Type} {a1 b1 : α1} (h : Aside0 (some (a0, a1) = some (b0, b1))) : a0 = b0 ∧ a1 = b1 := by simpa only [Option.some.injEq, Prod.mk.injEq] using h.out
theorem zt3 {α0 : Type} {a0 b0 : α0} {α1 : Type} {a1 b1 : α1} {α2 : Type} {a2 b2 : α2} (h : Aside0 (some (a0, a1, a2) = some (b0, b1, b2))) : a0 = b0 ∧ a1 = b1 ∧ a2 = b2 := by simpa only [Option.some.injEq, Prod.mk.injEq] using h.out
theorem zt4 {α0 : Type} {a0 b0 : α0} {α1 : Type} {a1 b1 : α1} {α2 : Type} {a2 b2 : α2} {α3 : Type} {a3 b3 : α3} (h : Aside0 (some (a0, a1, a2, a3) = some (b0, b1, b2, b3))) : a0 = b0 ∧ a1 = b1 ∧ a2 = b2 ∧ a3 = b3 := by simpa only [Option.some.injEq, Prod.mk.injEq] using h.out
theorem zt6 {α0 : Type} {a0 b0 : α0} {α1 : Type} {a1 b1 : α1} {α2 : Type} {a2 b2 : α2} {α3 : Type} {a3 b3 : α3} {α4 : Type} {a4 b4 : α4} {α5 : Type} {a5 b5 : α5} (h : Aside0 (some (a0, a1, a2, a3, a4, a5) = some (b0, b1, b2, b3, b4, b5))) : a0 = b0 ∧ a1 = b1 ∧ a2 = b2 ∧ a3 = b3 ∧ a4 = b4 ∧ a5 = b5 := by simpa only [Option.some.injEq, Prod.mk.injEq] using h.out
theorem zt7 {α0 : Type} {a0 b0 : α0} {α1 : Type} {a1 b1 : α1} {α2 : Type} {a2 b2 : α2} {α3 : Type} {a3 b3 : α3} {α4 : Type} {a4 b4 : α4} {α5 : Type} {a5 b5 : α5} {α6 : Type} {a6 b6 : α6} (h : Aside0 (some (a0, a1, a2, a3, a4, a5, a6) = some (b0, b1, b2, b3, b4, b5, b6))) : a0 = b0 ∧ a1 = b1 ∧ a2 = b2 ∧ a3 = b3 ∧ a4 = b4 ∧ a5 = b5 ∧ a6 = b6 := by simpa only [Option.some.injEq, Prod.mk.injEq] using h.out
theorem zd5 {w : World} {g : Nat} {t : TypeId} {v0 v1 v2 v3 v4 : Value} (h : w.heap[g]? = some (.cells #[v0, v1, v2, v3, v4] t (0, 0))) : w.cell? ⟨g, 0, none⟩ = some v0 ∧ w.cell? ⟨g, 1, none⟩ = some v1 ∧ w.cell? ⟨g, 2, none⟩ = some v2 ∧ w.cell? ⟨g, 3, none⟩ = some v3 ∧ w.cell? ⟨g, 4, none⟩ = some v4 := ⟨(blk_cell h 0).trans rfl, (blk_cell h 1).trans rfl, (blk_cell h 2).trans rfl, (blk_cell h 3).trans rfl, (blk_cell h 4).trans rfl⟩
end Go.Proofs.Ytkcgghgkmgbphaa.PFnMsgs
