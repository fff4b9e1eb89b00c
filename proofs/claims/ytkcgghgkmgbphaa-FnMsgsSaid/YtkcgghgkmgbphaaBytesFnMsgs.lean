/- Parts of bytes and numbers' bytes, written and read: what is written comes back, and what is read has just the bytes that are written of it. Conditions: lists of bytes (B), as each lemma names them. -/
import Derived.Test.YtkcgghgkmgbphaaBaseFnMsgs
namespace Go.Proofs.Ytkcgghgkmgbphaa.Base
open Go.RowKit Go.Proofs.YtkcgghgkmgbphaaW.PrintWords

/-! ### a part, written -/
/-- A part: its tag, how long, its body. -/
def tlv (t : Int) (b : List Int) : List Int := (t % 256 :: (if 128 ≤ b.length then [129, (b.length : Int)] else [(b.length : Int)])) ++ b
/-- A part behind bytes; these alone where it can't be. -/
def putTlv (p : List Int) (t : Int) (b : List Int) : List Int := if 0 ≤ t ∧ t ≤ 255 ∧ b.length ≤ 250 then p ++ tlv t b else p
theorem tlv_len (t : Int) (b : List Int) : (tlv t b).length = b.length + (if 128 ≤ b.length then 3 else 2) := by
  unfold tlv; split <;> simp <;> omega
theorem tlv_B {t : Int} {b : List Int} (hb : B b) (hl : b.length ≤ 255) : B (tlv t b) := by
  unfold tlv
  refine B.app (B.cons (by omega) (by omega) ?_) hb
  split
  · exact B.cons (by omega) (by omega) (B.one (by omega) (by omega))
  · exact B.one (by omega) (by omega)
theorem putTlv_B {p : List Int} {t : Int} {b : List Int} (hp : B p) (hb : B b) : B (putTlv p t b) := by
  unfold putTlv
  split
  · exact hp.app (tlv_B hb (by omega))
  · exact hp
theorem putTlv_len (p : List Int) (t : Int) (b : List Int) : p.length ≤ (putTlv p t b).length ∧ (putTlv p t b).length ≤ p.length + 253 := by
  unfold putTlv
  split
  · rw [List.length_append, tlv_len]; split <;> omega
  · omega
theorem rd_app (p q : List Int) (i : Int) (h : 0 ≤ i) : rd (p ++ q) (p.length + i) = rd q i := by
  obtain ⟨n, rfl⟩ := Int.eq_ofNat_of_zero_le h
  rw [show (p.length : Int) + (n : Int) = ((p.length + n : Nat) : Int) by omega, rd_nat, rd_nat, List.getD_eq_getElem?_getD, List.getD_eq_getElem?_getD, List.getElem?_append_right (by omega)]
  congr 2; omega
theorem rd_app0 (p q : List Int) : rd (p ++ q) (p.length : Int) = rd q 0 := by
  have := rd_app p q 0 (by omega)
  simpa using this
/-- What was written there is read there. -/
theorem tlvAt_put (p q : List Int) {t : Int} {b : List Int} (ht : 0 ≤ t ∧ t ≤ 255) (hl : b.length ≤ 250) : tlvAt (p ++ (tlv t b ++ q)) (p.length : Int) = some (t, b, (p.length : Int) + (tlv t b).length) := by
  have r0 := rd_app0 p (tlv t b ++ q)
  have r1 := rd_app p (tlv t b ++ q) 1 (by omega)
  have r2 := rd_app p (tlv t b ++ q) 2 (by omega)
  have hL : ((p ++ (tlv t b ++ q)).length : Int) = p.length + (tlv t b).length + q.length := by simp; omega
  have hT := tlv_len t b
  unfold tlvAt
  by_cases h : 128 ≤ b.length
  · rw [if_pos h] at hT
    have e : tlv t b = t % 256 :: 129 :: (b.length : Int) :: b := by unfold tlv; rw [if_pos h]; rfl
    have e0 : rd (tlv t b ++ q) 0 = t := by rw [e]; show t % 256 = t; omega
    have e1 : rd (tlv t b ++ q) 1 = 129 := by rw [e]; rfl
    have e2 : rd (tlv t b ++ q) 2 = b.length := by rw [e]; rfl
    rw [r0, r1, r2, e0, e1, e2, hL]
    rw [if_pos (by omega), if_neg (by omega), if_pos (by omega)]
    have hn : ((p.length : Int) + 3 + b.length).toNat = p.length + (tlv t b).length := by omega
    have hn2 : ((p.length : Int) + 3).toNat = p.length + 3 := by omega
    rw [hn, hn2]
    congr 2
    refine Prod.ext ?_ (by simp only; omega)
    simp only
    rw [← List.append_assoc, show p.length + (tlv t b).length = (p ++ tlv t b).length by simp, List.take_left, List.drop_append, List.drop_of_length_le (by omega), show p.length + 3 - p.length = 3 by omega, e]
    rfl
  · rw [if_neg h] at hT
    have e : tlv t b = t % 256 :: (b.length : Int) :: b := by unfold tlv; rw [if_neg h]; rfl
    have e0 : rd (tlv t b ++ q) 0 = t := by rw [e]; show t % 256 = t; omega
    have e1 : rd (tlv t b ++ q) 1 = b.length := by rw [e]; rfl
    rw [r0, r1, e0, e1, hL]
    rw [if_pos (by omega), if_pos (by omega), if_pos (by omega)]
    have hn : ((p.length : Int) + 2 + b.length).toNat = p.length + (tlv t b).length := by omega
    have hn2 : ((p.length : Int) + 2).toNat = p.length + 2 := by omega
    rw [hn, hn2]
    congr 2
    refine Prod.ext ?_ (by simp only; omega)
    simp only
    rw [← List.append_assoc, show p.length + (tlv t b).length = (p ++ tlv t b).length by simp, List.take_left, List.drop_append, List.drop_of_length_le (by omega), show p.length + 2 - p.length = 2 by omega, e]
    rfl
theorem drop_cons_rd {l : List Int} {n : Nat} (h : n < l.length) : l.drop n = rd l (n : Int) :: l.drop (n + 1) := by
  rw [List.drop_eq_getElem_cons h]
  congr 1
  rw [rd_nat, List.getD_eq_getElem?_getD, List.getElem?_eq_getElem h]; rfl
/-- What is read has the bytes that are written of it. -/
theorem tlvAt_bytes {l : List Int} (hB : B l) {a t : Int} {b : List Int} {n : Int} (h : tlvAt l a = some (t, b, n)) : l.drop a.toNat = tlv t b ++ l.drop n.toNat ∧ 0 ≤ t ∧ t ≤ 255 ∧ b.length ≤ 250 ∧ n = a + (tlv t b).length := by
  have b0 := hB.at_ a
  have b1 := hB.at_ (a + 1)
  have b2 := hB.at_ (a + 2)
  unfold tlvAt at h
  split at h
  · rename_i h0
    obtain ⟨m, rfl⟩ := Int.eq_ofNat_of_zero_le h0.1
    have d0 := drop_cons_rd (l := l) (n := m) (by omega)
    have d1 := drop_cons_rd (l := l) (n := m + 1) (by omega)
    rw [show ((m + 1 : Nat) : Int) = (m : Int) + 1 by omega] at d1
    split at h
    · rename_i h1
      split at h
      · rename_i h2
        simp only [Option.some.injEq, Prod.mk.injEq] at h
        obtain ⟨rfl, rfl, rfl⟩ := h
        have hlen : ((l.take ((m : Int) + 2 + rd l (m + 1)).toNat).drop ((m : Int) + 2).toNat).length = (rd l (m + 1)).toNat := by rw [List.length_drop, List.length_take]; omega
        have hT := tlv_len (rd l m) ((l.take ((m : Int) + 2 + rd l (m + 1)).toNat).drop ((m : Int) + 2).toNat)
        rw [if_neg (by omega)] at hT
        refine ⟨?_, b0.1, b0.2, by omega, by omega⟩
        unfold tlv
        rw [if_neg (by omega), hlen, show (((rd l (m + 1)).toNat : Nat) : Int) = rd l (m + 1) by omega, show rd l m % 256 = rd l m by omega]
        rw [show ((m : Int)).toNat = m by omega, d0, d1]
        simp only [List.cons_append, List.nil_append, List.cons.injEq, true_and]
        rw [show ((m : Int) + 2).toNat = m + 1 + 1 by omega]
        have : (l.drop (m + 1 + 1)) = ((l.drop (m + 1 + 1)).take (rd l (m + 1)).toNat) ++ (l.drop (m + 1 + 1)).drop (rd l (m + 1)).toNat := (List.take_append_drop _ _).symm
        rw [this]
        congr 1
        · rw [List.drop_take]; congr 1; omega
        · rw [List.drop_drop]; congr 1; omega
      · simp at h
    · rename_i h1
      split at h
      · rename_i h2
        obtain ⟨e1, h3, h4, h5, h6⟩ := h2
        simp only [Option.some.injEq, Prod.mk.injEq] at h
        obtain ⟨rfl, rfl, rfl⟩ := h
        have d2 := drop_cons_rd (l := l) (n := m + 1 + 1) (by omega)
        rw [show ((m + 1 + 1 : Nat) : Int) = (m : Int) + 2 by omega] at d2
        have hlen : ((l.take ((m : Int) + 3 + rd l (m + 2)).toNat).drop ((m : Int) + 3).toNat).length = (rd l (m + 2)).toNat := by rw [List.length_drop, List.length_take]; omega
        have hT := tlv_len (rd l m) ((l.take ((m : Int) + 3 + rd l (m + 2)).toNat).drop ((m : Int) + 3).toNat)
        rw [if_pos (by omega)] at hT
        refine ⟨?_, b0.1, b0.2, by omega, by omega⟩
        unfold tlv
        rw [if_pos (by omega), hlen, show (((rd l (m + 2)).toNat : Nat) : Int) = rd l (m + 2) by omega, show rd l m % 256 = rd l m by omega]
        rw [show ((m : Int)).toNat = m by omega, d0, d1, d2, e1]
        simp only [List.cons_append, List.nil_append, List.cons.injEq, true_and]
        rw [show ((m : Int) + 3).toNat = m + 1 + 1 + 1 by omega]
        have : (l.drop (m + 1 + 1 + 1)) = ((l.drop (m + 1 + 1 + 1)).take (rd l (m + 2)).toNat) ++ (l.drop (m + 1 + 1 + 1)).drop (rd l (m + 2)).toNat := (List.take_append_drop _ _).symm
        rw [this]
        congr 1
        · rw [List.drop_take]; congr 1; omega
        · rw [List.drop_drop]; congr 1; omega
      · simp at h
  · simp at h

/-! ### a number, written and read -/
theorem getInt_put (n : Int) : getInt (putInt n) = (clip n, true) := by
  obtain ⟨h0, h1⟩ := clip_range n
  have hL := putInt_len n
  have hv : xVal (putInt n) = clip n := by
    unfold putInt intBytes
    generalize clip n = c at *
    by_cases c1 : -128 ≤ c ∧ c ≤ 127
    · rw [if_pos c1]; simp only [xVal, List.foldl_nil, s8]; split <;> omega
    · rw [if_neg c1]
      by_cases c2 : -32768 ≤ c ∧ c ≤ 32767
      · rw [if_pos c2]; simp only [xVal, List.foldl_cons, List.foldl_nil, s8, more]; split <;> omega
      · rw [if_neg c2]
        by_cases c3 : -8388608 ≤ c ∧ c ≤ 8388607
        · rw [if_pos c3]; simp only [xVal, List.foldl_cons, List.foldl_nil, s8, more]; split <;> omega
        · rw [if_neg c3]; simp only [xVal, List.foldl_cons, List.foldl_nil, s8, more]; split <;> omega
  unfold getInt
  rw [if_pos hL, hv]
  have : putInt (clip n) = putInt n := by unfold putInt; rw [clip_of h0 h1]
  rw [this, if_pos rfl]
theorem getInt_bytes {b : List Int} (hB : B b) {v : Int} (h : getInt b = (v, true)) : putInt v = b ∧ -2147483648 ≤ v ∧ v ≤ 2147483647 := by
  unfold getInt at h
  split at h
  · rename_i hl
    split at h
    · rename_i he
      simp only [Prod.mk.injEq, and_true] at h
      subst h
      match b, hl, hB, he with
      | [], hl, _, _ => simp at hl
      | [x], _, hB, he =>
        have hx := hB x (by simp)
        simp only [xVal, List.foldl_nil] at he ⊢
        have hs : -128 ≤ s8 x ∧ s8 x ≤ 127 := by unfold s8; split <;> omega
        refine ⟨?_, by omega, by omega⟩
        unfold putInt
        rw [clip_of (by omega) (by omega)]
        unfold intBytes
        rw [if_pos hs]
        congr 1; unfold s8; split <;> omega
      | [x, y], _, hB, he =>
        have hx := hB x (by simp)
        have hy := hB y (by simp)
        simp only [xVal, List.foldl_cons, List.foldl_nil, more] at he ⊢
        have hs : -128 ≤ s8 x ∧ s8 x ≤ 127 := by unfold s8; split <;> omega
        have hx2 : s8 x % 256 = x := by unfold s8; split <;> omega
        refine ⟨?_, by omega, by omega⟩
        unfold putInt at he ⊢
        rw [clip_of (by omega) (by omega)] at he ⊢
        unfold intBytes at he ⊢
        by_cases c1 : -128 ≤ s8 x * 256 + y ∧ s8 x * 256 + y ≤ 127
        · rw [if_pos c1] at he; simp at he
        · rw [if_neg c1, if_pos (by omega)]
          simp only [List.cons.injEq, and_true]
          omega
      | [x, y, z], _, hB, he =>
        have hx := hB x (by simp)
        have hy := hB y (by simp)
        have hz := hB z (by simp)
        simp only [xVal, List.foldl_cons, List.foldl_nil, more] at he ⊢
        have hs : -128 ≤ s8 x ∧ s8 x ≤ 127 := by unfold s8; split <;> omega
        have hx2 : s8 x % 256 = x := by unfold s8; split <;> omega
        refine ⟨?_, by omega, by omega⟩
        unfold putInt at he ⊢
        rw [clip_of (by omega) (by omega)] at he ⊢
        unfold intBytes at he ⊢
        generalize hv : (s8 x * 256 + y) * 256 + z = v at *
        by_cases c1 : -128 ≤ v ∧ v ≤ 127
        · rw [if_pos c1] at he; simp at he
        · rw [if_neg c1] at he ⊢
          by_cases c2 : -32768 ≤ v ∧ v ≤ 32767
          · rw [if_pos c2] at he; simp at he
          · rw [if_neg c2, if_pos (by omega)]
            simp only [List.cons.injEq, and_true]
            omega
      | [x, y, z, u], _, hB, he =>
        have hx := hB x (by simp)
        have hy := hB y (by simp)
        have hz := hB z (by simp)
        have hu := hB u (by simp)
        simp only [xVal, List.foldl_cons, List.foldl_nil, more] at he ⊢
        have hs : -128 ≤ s8 x ∧ s8 x ≤ 127 := by unfold s8; split <;> omega
        have hx2 : s8 x % 256 = x := by unfold s8; split <;> omega
        refine ⟨?_, by omega, by omega⟩
        unfold putInt at he ⊢
        rw [clip_of (by omega) (by omega)] at he ⊢
        unfold intBytes at he ⊢
        generalize hv : ((s8 x * 256 + y) * 256 + z) * 256 + u = v at *
        by_cases c1 : -128 ≤ v ∧ v ≤ 127
        · rw [if_pos c1] at he; simp at he
        · rw [if_neg c1] at he ⊢
          by_cases c2 : -32768 ≤ v ∧ v ≤ 32767
          · rw [if_pos c2] at he; simp at he
          · rw [if_neg c2] at he ⊢
            by_cases c3 : -8388608 ≤ v ∧ v ≤ 8388607
            · rw [if_pos c3] at he; simp at he
            · rw [if_neg c3]
              simp only [List.cons.injEq, and_true]
              omega
      | a :: b :: c :: d :: e :: r, hl, _, _ => simp at hl
    · simp at h
  · simp at h

/-! ### readers: what was read, and what was written -/
theorem xPart_bad (l : List Int) (a : Int) (tag : Int) : xPart l a true tag = ([], a, true) := by unfold xPart; rw [if_pos rfl]
theorem xNum_bad (l : List Int) (a : Int) (tag : Int) : xNum l a true tag = (0, a, true) := by unfold xNum; rw [xPart_bad]; rfl
theorem xPart_bytes {l : List Int} (hB : B l) {a : Int} {bad : Bool} {tag : Int} (h : (xPart l a bad tag).2.2 = false) :
    bad = false ∧ tlvAt l a = some (tag, (xPart l a bad tag).1, (xPart l a bad tag).2.1) ∧ l.drop a.toNat = tlv tag (xPart l a bad tag).1 ++ l.drop (xPart l a bad tag).2.1.toNat ∧ 0 ≤ a ∧ a < (xPart l a bad tag).2.1 ∧ (xPart l a bad tag).2.1 ≤ l.length ∧ B (xPart l a bad tag).1 ∧ (xPart l a bad tag).1.length ≤ 250 := by
  unfold xPart at h ⊢
  cases bad with
  | true => simp at h
  | false =>
    simp only [Bool.false_eq_true, if_false] at h ⊢
    cases he : tlvAt l a with
    | none => rw [he] at h; simp at h
    | some x =>
      obtain ⟨t, b, n⟩ := x
      rw [he] at h
      simp only at h ⊢
      by_cases ht : t = tag
      · subst ht
        simp only [if_true]
        have h1 := tlvAt_range hB he
        have h2 := tlvAt_bytes hB he
        exact ⟨trivial, trivial, h2.1, h1.1, h1.2.1, h1.2.2.1, h1.2.2.2.1, h2.2.2.2.1⟩
      · rw [if_neg ht] at h; simp at h
theorem xNum_bytes {l : List Int} (hB : B l) {a : Int} {bad : Bool} {tag : Int} (h : (xNum l a bad tag).2.2 = false) :
    bad = false ∧ l.drop a.toNat = tlv tag (putInt (xNum l a bad tag).1) ++ l.drop (xNum l a bad tag).2.1.toNat ∧ 0 ≤ a ∧ a < (xNum l a bad tag).2.1 ∧ (xNum l a bad tag).2.1 ≤ l.length ∧ -2147483648 ≤ (xNum l a bad tag).1 ∧ (xNum l a bad tag).1 ≤ 2147483647 ∧ (tlvAt l a).isSome = true ∧ rd l a = tag := by
  unfold xNum at h ⊢
  simp only [Bool.or_eq_false_iff, Bool.not_eq_false'] at h ⊢
  obtain ⟨e1, e2, e3, e4, e5, e6, e7, _⟩ := xPart_bytes hB h.1
  have hg : getInt (xPart l a bad tag).1 = ((getInt (xPart l a bad tag).1).1, true) := Prod.ext rfl h.2
  obtain ⟨g1, g2, g3⟩ := getInt_bytes e7 hg
  refine ⟨e1, ?_, e4, e5, e6, g2, g3, by rw [e2]; rfl, ?_⟩
  · rw [g1]; exact e3
  · unfold tlvAt at e2
    split at e2
    · split at e2 <;> split at e2 <;> simp at e2 <;> exact e2.1
    · simp at e2
theorem xPart_put (p q : List Int) {t : Int} {b : List Int} (ht : 0 ≤ t ∧ t ≤ 255) (hl : b.length ≤ 250) : xPart (p ++ (tlv t b ++ q)) (p.length : Int) false t = (b, ((p ++ tlv t b).length : Int), false) := by
  unfold xPart
  rw [if_neg (by simp), tlvAt_put p q ht hl]
  simp
theorem xNum_put (p q : List Int) {t : Int} (v : Int) (ht : 0 ≤ t ∧ t ≤ 255) : xNum (p ++ (tlv t (putInt v) ++ q)) (p.length : Int) false t = (clip v, ((p ++ tlv t (putInt v)).length : Int), false) := by
  unfold xNum
  rw [xPart_put p q ht (by have := putInt_len v; omega), getInt_put]
  rfl
theorem tlv_inj {t : Int} {b c p q : List Int} (h : tlv t b ++ p = tlv t c ++ q) (hb : b.length = c.length) : b = c ∧ p = q := by
  unfold tlv at h
  rw [hb] at h
  simp only [List.cons_append, List.append_assoc, List.cons.injEq, true_and] at h
  exact List.append_inj (List.append_cancel_left h) hb
theorem putInt_tlv_len (t v : Int) : 3 ≤ (tlv t (putInt v)).length ∧ (tlv t (putInt v)).length ≤ 6 := by
  have := putInt_len v
  rw [tlv_len]; split <;> omega
theorem putInt_clip {v : Int} : putInt (clip v) = putInt v := by
  obtain ⟨h0, h1⟩ := clip_range v
  unfold putInt; rw [clip_of h0 h1]
/-! ### bytes as text -/
theorem str_inj {a b : List Int} (ha : B a) (hb : B b) : (strOfNums a).toList = (strOfNums b).toList ↔ a = b := by
  constructor
  · intro h
    rw [Go.ByteArray.toList_eq, Go.ByteArray.toList_eq, strOfNums_data, strOfNums_data] at h
    have hl : a.length = b.length := by simpa using congrArg List.length h
    apply List.ext_getElem hl
    intro i h1 h2
    have h3 : UInt8.ofNat (a[i]).toNat = UInt8.ofNat (b[i]).toNat := by
      have := congrArg (fun l => l[i]?) h
      simpa [List.getElem?_eq_getElem h1, List.getElem?_eq_getElem h2] using this
    have e1 := ha a[i] (List.getElem_mem h1)
    have e2 := hb b[i] (List.getElem_mem h2)
    have h4 := congrArg UInt8.toNat h3
    have m8 : ∀ n : Nat, (UInt8.ofNat n).toNat = n % 256 := fun n => by simp
    rw [m8, m8] at h4
    omega
  · rintro rfl; rfl
end Go.Proofs.Ytkcgghgkmgbphaa.Base
