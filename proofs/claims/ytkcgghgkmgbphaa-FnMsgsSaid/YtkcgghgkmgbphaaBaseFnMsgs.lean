/- Plain words on intBytes and numbers: what a part of intBytes, a number's intBytes and the readers of both are, with no program in sight. Conditions: none beyond those each lemma names. -/
import Derived.Test.YtkcgghgkmgbphaaVFnMsgs0
import Derived.Laws.BitsLemmas
namespace Go.Proofs.Ytkcgghgkmgbphaa.Base
open Go.RowKit Go.Proofs.YtkcgghgkmgbphaaW.PrintWords

/-! ### numbers -/
theorem w64 {n : Int} (h0 : -9223372036854775808 ≤ n) (h1 : n ≤ 9223372036854775807) : wrap64 n = n := by unfold wrap64; omega
theorem w64_range (n : Int) : -9223372036854775808 ≤ wrap64 n ∧ wrap64 n ≤ 9223372036854775807 := by unfold wrap64; omega

/-- All are intBytes. -/
def B (l : List Int) : Prop := ∀ x ∈ l, 0 ≤ x ∧ x ≤ 255
theorem B.at_ {l : List Int} (h : B l) (i : Int) : 0 ≤ rd l i ∧ rd l i ≤ 255 := by
  unfold rd
  rw [List.getD_eq_getElem?_getD]
  cases hx : l[i.toNat]? with
  | none => simp
  | some x => exact h x (List.mem_of_getElem? hx)
theorem B.nil : B [] := fun _ h => by simp at h
theorem B.app {a b : List Int} (ha : B a) (hb : B b) : B (a ++ b) := fun x hx => (List.mem_append.1 hx).elim (ha x) (hb x)
theorem B.take {l : List Int} (h : B l) (n : Nat) : B (l.take n) := fun x hx => h x (List.mem_of_mem_take hx)
theorem B.drop {l : List Int} (h : B l) (n : Nat) : B (l.drop n) := fun x hx => h x (List.mem_of_mem_drop hx)
theorem B.one {x : Int} (h0 : 0 ≤ x) (h1 : x ≤ 255) : B [x] := fun y hy => by rw [List.mem_singleton.1 hy]; exact ⟨h0, h1⟩
theorem B.mod (x : Int) : B [x % 256] := B.one (by omega) (by omega)
theorem B.cons {x : Int} {l : List Int} (h0 : 0 ≤ x) (h1 : x ≤ 255) (h : B l) : B (x :: l) := fun y hy => by
  rcases List.mem_cons.1 hy with rfl | hy
  · exact ⟨h0, h1⟩
  · exact h y hy
theorem B.of_wf {l : List Int} (h : ∀ x ∈ l, (Lit.int .u8 x).wf = true) : B l := fun x hx => by
  have := h x hx
  simp [Lit.wf, IntKind.min, IntKind.max, IntKind.signed, IntKind.bits] at this
  omega
theorem rd_nil (i : Int) : rd [] i = 0 := by simp [rd]
theorem rd_nat (l : List Int) (n : Nat) : rd l (n : Int) = l.getD n 0 := by simp [rd]
theorem rd_cons_zero (x : Int) (l : List Int) : rd (x :: l) 0 = x := by simp [rd]

/-! ### a list that is written anew, place by place -/
theorem set_take {xs ys : List Int} {i : Nat} (hl : ys.length = xs.length) (h : ys.take i = xs.take i) (hi : i < xs.length) : (ys.set i (rd xs (i : Int))).take (i + 1) = xs.take (i + 1) := by
  have h2 : (ys.set i (rd xs (i : Int)))[i]? = some (rd xs (i : Int)) := by rw [List.getElem?_set_self (by omega)]
  rw [List.take_add_one, List.take_set_of_le (Nat.le_refl _), h, h2, List.take_add_one]
  congr 1
  rw [rd_nat, List.getD_eq_getElem?_getD, List.getElem?_eq_getElem hi]
  rfl

/-! ### a part of intBytes -/
/-- The part that begins at a place: its tag, its body, the place behind. -/
def tlvAt (l : List Int) (a : Int) : Option (Int × List Int × Int) :=
  if 0 ≤ a ∧ a + 1 < l.length then
    if rd l (a + 1) < 128 then
      if a + 2 + rd l (a + 1) ≤ l.length then some (rd l a, (l.take (a + 2 + rd l (a + 1)).toNat).drop (a + 2).toNat, a + 2 + rd l (a + 1)) else none
    else if rd l (a + 1) = 129 ∧ a + 2 < l.length ∧ 128 ≤ rd l (a + 2) ∧ rd l (a + 2) ≤ 250 ∧ a + 3 + rd l (a + 2) ≤ l.length then
      some (rd l a, (l.take (a + 3 + rd l (a + 2)).toNat).drop (a + 3).toNat, a + 3 + rd l (a + 2))
    else none
  else none
/-- The same as four results. -/
def tlv4 (l : List Int) (a : Int) : Int × List Int × Int × Bool := match tlvAt l a with
  | none => (0, [], 0, false)
  | some (t, b, n) => (t, b, n, true)

/-! ### a number's intBytes -/
def clip (n : Int) : Int := if n > 2147483647 then 2147483647 else if n < -2147483648 then -2147483648 else n
theorem clip_range (n : Int) : -2147483648 ≤ clip n ∧ clip n ≤ 2147483647 := by unfold clip; split <;> (try split) <;> omega
theorem clip_of {n : Int} (h0 : -2147483648 ≤ n) (h1 : n ≤ 2147483647) : clip n = n := by unfold clip; rw [if_neg (by omega), if_neg (by omega)]
theorem mxmn (n : Int) : mx (-2147483648) (mn n 2147483647) = clip n := by
  unfold mx mn clip
  repeat' split
  all_goals omega
/-- The intBytes of a number that is kept. -/
def intBytes (c : Int) : List Int :=
  if -128 ≤ c ∧ c ≤ 127 then [c % 256]
  else if -32768 ≤ c ∧ c ≤ 32767 then [c / 256 % 256, c % 256]
  else if -8388608 ≤ c ∧ c ≤ 8388607 then [c / 65536 % 256, c / 256 % 256, c % 256]
  else [c / 16777216 % 256, c / 65536 % 256, c / 256 % 256, c % 256]
def putInt (n : Int) : List Int := intBytes (clip n)
theorem intBytes_B (c : Int) : B (intBytes c) := by
  unfold intBytes
  repeat' split
  all_goals (intro x hx; simp only [List.mem_cons, List.not_mem_nil, or_false] at hx; omega)
theorem putInt_B (n : Int) : B (putInt n) := intBytes_B _
theorem intBytes_len (c : Int) : 1 ≤ (intBytes c).length ∧ (intBytes c).length ≤ 4 := by
  unfold intBytes
  repeat' split
  all_goals simp
theorem putInt_len (n : Int) : 1 ≤ (putInt n).length ∧ (putInt n).length ≤ 4 := intBytes_len _

/-! ### a number out of intBytes -/
def s8 (x : Int) : Int := if x > 127 then x - 256 else x
/-- One byte more. -/
def more (n x : Int) : Int := n * 256 + x
/-- All intBytes of a number, or of none. -/
def xVal : List Int → Int
  | [] => 0
  | x :: l => l.foldl more (s8 x)
def getInt (b : List Int) : Int × Bool :=
  if 1 ≤ b.length ∧ b.length ≤ 4 then (if (putInt (xVal b)).length = b.length then (xVal b, true) else (0, false)) else (0, false)

theorem or_bytes (x y : Int) (h0 : 0 ≤ y) (h1 : y ≤ 255) : Go.bits .or .i64 (wrap64 (x * 256)) (wrap64 y) = wrap64 (x * 256 + y) := by
  have hw : ∀ n : Int, BitVec.ofInt 64 (wrap64 n) = BitVec.ofInt 64 n := by
    intro n
    apply BitVec.eq_of_toInt_eq
    rw [BitVec.toInt_ofInt, BitVec.toInt_ofInt]
    rw [show wrap64 n = n + (-((n + 9223372036854775808) / 18446744073709551616)) * 18446744073709551616 by unfold wrap64; omega]
    exact Int.add_mul_bmod_self_right ..
  have hz : BitVec.ofInt 64 (x * 256) &&& BitVec.ofInt 64 y = 0#64 := by
    have h8 : BitVec.ofInt 64 (x * 256) = BitVec.ofInt 64 x <<< 8 := by
      rw [BitVec.shiftLeft_eq_mul_twoPow, BitVec.ofInt_mul]; rfl
    obtain ⟨m, rfl⟩ := Int.eq_ofNat_of_zero_le h0
    rw [h8, BitVec.ofInt_natCast]
    apply BitVec.eq_of_getLsbD_eq
    intro i hi
    rw [BitVec.getLsbD_and, BitVec.getLsbD_shiftLeft, BitVec.getLsbD_ofNat]
    by_cases hi8 : i < 8
    · simp [hi8]
    · have : m.testBit i = false := Nat.testBit_lt_two_pow (Nat.lt_of_lt_of_le (show m < 2 ^ 8 by omega) (Nat.pow_le_pow_right (by omega) (by omega)))
      simp [this]
  have hor : BitVec.ofInt 64 (x * 256) ||| BitVec.ofInt 64 y = BitVec.ofInt 64 (x * 256 + y) := by
    rw [BitVec.ofInt_add, BitVec.add_eq_or_of_and_eq_zero _ _ hz]
  simp only [Go.bits]
  show IntKind.i64.wrap (((BitVec.ofInt 64 (wrap64 (x * 256)) ||| BitVec.ofInt 64 (wrap64 y)).toNat : Int)) = _
  rw [hw, hw, hor, IntKind.wrap_i64]
  unfold wrap64
  have : ((BitVec.ofInt 64 (x * 256 + y)).toNat : Int) = (x * 256 + y) % 18446744073709551616 := by
    rw [BitVec.toNat_ofInt]
    have := Int.emod_nonneg (x * 256 + y) (show (18446744073709551616 : Int) ≠ 0 by decide)
    show (((x * 256 + y) % 18446744073709551616).toNat : Int) = _
    omega
  rw [this]
  omega

/-! ### readers -/
theorem tlvAt_range {l : List Int} {a : Int} {t : Int} {b : List Int} {n : Int} (hB : B l) (h : tlvAt l a = some (t, b, n)) : 0 ≤ a ∧ a < n ∧ n ≤ l.length ∧ B b ∧ b.length ≤ l.length ∧ b.length ≤ 250 := by
  have b1 := hB.at_ (a + 1)
  have b2 := hB.at_ (a + 2)
  unfold tlvAt at h
  split at h
  · rename_i h0
    split at h
    · split at h
      · simp only [Option.some.injEq, Prod.mk.injEq] at h
        obtain ⟨rfl, rfl, rfl⟩ := h
        refine ⟨by omega, by omega, by omega, (hB.take _).drop _, ?_, ?_⟩ <;> (rw [List.length_drop, List.length_take]; omega)
      · simp at h
    · split at h
      · simp only [Option.some.injEq, Prod.mk.injEq] at h
        obtain ⟨rfl, rfl, rfl⟩ := h
        refine ⟨by omega, by omega, by omega, (hB.take _).drop _, ?_, ?_⟩ <;> (rw [List.length_drop, List.length_take]; omega)
      · simp at h
  · simp at h
/-- The body of the next part, if it is there and of this tag; the place; is it bad? -/
def xPart (l : List Int) (a : Int) (bad : Bool) (tag : Int) : List Int × Int × Bool :=
  if bad = true then ([], a, true) else match tlvAt l a with
  | none => ([], a, true)
  | some (t, b, n) => if t = tag then (b, n, false) else ([], a, true)
def xNum (l : List Int) (a : Int) (bad : Bool) (tag : Int) : Int × Int × Bool :=
  ((getInt (xPart l a bad tag).1).1, (xPart l a bad tag).2.1, (xPart l a bad tag).2.2 || !(getInt (xPart l a bad tag).1).2)
theorem xPart_range {l : List Int} {a : Int} (hB : B l) (h0 : 0 ≤ a) (h1 : a ≤ l.length) (bad : Bool) (tag : Int) :
    B (xPart l a bad tag).1 ∧ (xPart l a bad tag).1.length ≤ l.length ∧ 0 ≤ (xPart l a bad tag).2.1 ∧ (xPart l a bad tag).2.1 ≤ l.length := by
  unfold xPart
  split
  · exact ⟨B.nil, by simp, h0, h1⟩
  · split
    · exact ⟨B.nil, by simp, h0, h1⟩
    · rename_i t b n he
      have := tlvAt_range hB he
      split
      · exact ⟨this.2.2.2.1, this.2.2.2.2.1, by simp only; omega, by simp only; omega⟩
      · exact ⟨B.nil, by simp, h0, h1⟩
theorem xNum_range {l : List Int} {a : Int} (hB : B l) (h0 : 0 ≤ a) (h1 : a ≤ l.length) (bad : Bool) (tag : Int) :
    0 ≤ (xNum l a bad tag).2.1 ∧ (xNum l a bad tag).2.1 ≤ l.length := (xPart_range hB h0 h1 bad tag).2.2

/-! ### vectors -/
def vecOk (r c h b p : Int) : Bool := decide (1 ≤ r ∧ r ≤ 99 ∧ 0 ≤ c ∧ c ≤ 100000 ∧ 0 ≤ h ∧ h ≤ 10 ∧ 1 ≤ b ∧ b ≤ 99 ∧ 0 ≤ p ∧ p ≤ 7)
/-- The next number behind what was read. -/
def nextNum (l : List Int) (p : Int × Int × Bool) (tag : Int) : Int × Int × Bool := xNum l p.2.1 p.2.2 tag
def getVec (l : List Int) : Int × Int × Int × Int × Int × Bool :=
  let a := xNum l 0 false 2
  let b := nextNum l a 2
  let c := nextNum l b 2
  let d := nextNum l c 2
  let e := nextNum l d 2
  bif !e.2.2 && (e.2.1 == (l.length : Int) && vecOk a.1 b.1 c.1 d.1 e.1) then (a.1, b.1, c.1, d.1, e.1, true) else (0, 0, 0, 0, 0, false)

/-! ### marks -/
/-- Numbers from one on, as bytes. -/
def marks (n : Nat) (a : Int) : List Int := (List.range n).map fun i : Nat => (a + (i : Int)) % 256
theorem marks_len (n : Nat) (a : Int) : (marks n a).length = n := by simp [marks]
theorem marks_rd (n : Nat) (a : Int) {i : Nat} (h : i < n) : rd (marks n a) (i : Int) = (a + (i : Int)) % 256 := by
  rw [rd_nat]; simp [marks, h]
end Go.Proofs.Ytkcgghgkmgbphaa.Base
