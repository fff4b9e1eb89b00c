/- Values as bytes: what is written is read, and what is read has just these bytes. Conditions: lists of bytes (B), as each lemma names them. -/
import Derived.Test.YtkcgghgkmgbphaaBytesFnMsgs
import Derived.Test.YtkcgghgkmgbphaaOidFnMsgs
namespace Go.Proofs.Ytkcgghgkmgbphaa.Base
open Go.RowKit Go.Proofs.YtkcgghgkmgbphaaW.PrintWords

/-! ### text -/
theorem size0 {s : ByteArray} (h : s.size = 0) : s = (⟨#[]⟩ : ByteArray) := by
  obtain ⟨a⟩ := s
  have : a.size = 0 := h
  rw [Array.eq_empty_of_size_eq_zero this]
theorem str_eq {a b : ByteArray} : a.toList = b.toList ↔ a = b := by
  constructor
  · intro h
    rw [Go.ByteArray.toList_eq, Go.ByteArray.toList_eq] at h
    obtain ⟨a⟩ := a
    obtain ⟨b⟩ := b
    congr 1
    exact Array.toList_inj.1 h
  · rintro rfl; rfl
theorem toList_nil {s : ByteArray} : s.toList = [] ↔ s = (⟨#[]⟩ : ByteArray) := by
  have e : (⟨#[]⟩ : ByteArray).toList = [] := by rw [Go.ByteArray.toList_eq]
  exact ⟨fun h => str_eq.1 (h.trans e.symm), fun h => h ▸ e⟩
theorem bytesOf_B (s : ByteArray) : B (bytesOf s) := fun x hx => by
  obtain ⟨b, _, rfl⟩ := List.mem_map.1 hx
  have := b.toNat_lt
  omega
theorem strOfNums_bytesOf (s : ByteArray) : strOfNums (bytesOf s) = s := by
  obtain ⟨a⟩ := s
  unfold strOfNums bytesOf
  congr 1
  rw [List.map_map]
  apply Array.toList_inj.1
  rw [List.map_congr_left (g := id) (fun b _ => by simp), List.map_id]
theorem bytesOf_strOfNums {b : List Int} (hB : B b) : bytesOf (strOfNums b) = b := by
  unfold bytesOf
  rw [strOfNums_data, List.map_map]
  rw [List.map_congr_left (g := id) (fun x hx => by
    have := hB x hx
    simp only [Function.comp_apply, id_eq]
    have m8 : ∀ n : Nat, (UInt8.ofNat n).toNat = n % 256 := fun n => by simp
    rw [m8]; omega), List.map_id]
theorem strOfNums_size (b : List Int) : (strOfNums b).size = b.length := by
  show (strOfNums b).data.size = _
  rw [← Array.length_toList, strOfNums_data, List.length_map]
theorem bytesOf_len (s : ByteArray) : (bytesOf s).length = s.size := by
  unfold bytesOf
  rw [List.length_map, Array.length_toList]; rfl

/-! ### a value -/
def valOk (k n : Int) (s : ByteArray) (o : List Int) : Bool :=
  if k = 2 then decide (-2147483648 ≤ n ∧ n ≤ 2147483647 ∧ s.size = 0 ∧ o.length = 0)
  else if k = 4 then decide (s.size ≤ 20 ∧ n = 0 ∧ o.length = 0)
  else if k = 6 then oidOk o && decide (n = 0 ∧ s.size = 0)
  else if k = 5 ∨ k = 128 ∨ k = 130 then decide (n = 0 ∧ s.size = 0 ∧ o.length = 0) else false
/-- A value's bytes, without tag and length. -/
def valBody (k n : Int) (s : ByteArray) (o : List Int) : List Int := if k = 2 then putInt n else if k = 4 then bytesOf s else if k = 6 then putOid o else []
def putVal (p : List Int) (k n : Int) (s : ByteArray) (o : List Int) : List Int := if valOk k n s o = true then p ++ tlv k (valBody k n s o) else p
theorem valOk_kind {k n : Int} {s : ByteArray} {o : List Int} (h : valOk k n s o = true) : 0 ≤ k ∧ k ≤ 255 ∧ (valBody k n s o).length ≤ 30 ∧ B (valBody k n s o) := by
  unfold valOk at h
  unfold valBody
  split at h
  · rename_i e
    rw [if_pos e]
    have := putInt_len n
    exact ⟨by omega, by omega, by omega, putInt_B _⟩
  · rename_i e1
    rw [if_neg e1]
    split at h
    · rename_i e
      rw [if_pos e, bytesOf_len]
      have := of_decide_eq_true h
      exact ⟨by omega, by omega, by omega, bytesOf_B _⟩
    · rename_i e2
      rw [if_neg e2]
      split at h
      · rename_i e
        rw [if_pos e]
        exact ⟨by omega, by omega, putOid_len _, putOid_B _⟩
      · rename_i e3
        rw [if_neg e3]
        split at h
        · exact ⟨by omega, by omega, by simp, B.nil⟩
        · simp at h
theorem putVal_B {p : List Int} (hp : B p) (k n : Int) (s : ByteArray) (o : List Int) : B (putVal p k n s o) := by
  unfold putVal
  split
  · rename_i h
    have := valOk_kind h
    exact hp.app (tlv_B this.2.2.2 (by omega))
  · exact hp
theorem putVal_len (p : List Int) (k n : Int) (s : ByteArray) (o : List Int) : p.length ≤ (putVal p k n s o).length ∧ (putVal p k n s o).length ≤ p.length + 32 := by
  unfold putVal
  split
  · rename_i h
    have := valOk_kind h
    rw [List.length_append, tlv_len, if_neg (by omega)]
    omega
  · omega
theorem putVal_tlv {p : List Int} {k n : Int} {s : ByteArray} {o : List Int} (h : valOk k n s o = true) : putTlv p k (valBody k n s o) = putVal p k n s o := by
  have := valOk_kind h
  unfold putTlv putVal
  rw [if_pos h, if_pos (by omega)]
/-- What a part's tag and body tell: a value, or none. -/
noncomputable def tellVal (t : Int) (b : List Int) : Int × Int × ByteArray × List Int × Bool :=
  if t = 2 then (if (getInt b).2 = true then (t, (getInt b).1, (⟨#[]⟩ : ByteArray), [], true) else (0, 0, (⟨#[]⟩ : ByteArray), [], false))
  else if t = 4 then (if b.length ≤ 20 then (t, 0, strOfNums b, [], true) else (0, 0, (⟨#[]⟩ : ByteArray), [], false))
  else if t = 6 then (if (getOid b).2 = true then (t, 0, (⟨#[]⟩ : ByteArray), (getOid b).1, true) else (0, 0, (⟨#[]⟩ : ByteArray), [], false))
  else if b.length = 0 ∧ (t = 5 ∨ t = 128 ∨ t = 130) then (t, 0, (⟨#[]⟩ : ByteArray), [], true) else (0, 0, (⟨#[]⟩ : ByteArray), [], false)
noncomputable def getVal (l : List Int) (a : Int) : Int × Int × ByteArray × List Int × Int × Bool := match tlvAt l a with
  | none => (0, 0, (⟨#[]⟩ : ByteArray), [], 0, false)
  | some (t, b, e) => if (tellVal t b).2.2.2.2 = true then ((tellVal t b).1, (tellVal t b).2.1, (tellVal t b).2.2.1, (tellVal t b).2.2.2.1, e, true) else (0, 0, (⟨#[]⟩ : ByteArray), [], 0, false)
theorem tellVal_put {k n : Int} {s : ByteArray} {o : List Int} (h : valOk k n s o = true) : tellVal k (valBody k n s o) = (k, n, s, o, true) := by
  unfold valOk at h
  unfold valBody tellVal
  by_cases e1 : k = 2
  · rw [if_pos e1] at h ⊢
    have := of_decide_eq_true h
    rw [if_pos e1, getInt_put, clip_of (by omega) (by omega), if_pos rfl, size0 this.2.2.1, List.length_eq_zero_iff.1 this.2.2.2]
  · rw [if_neg e1] at h ⊢
    rw [if_neg e1]
    by_cases e2 : k = 4
    · rw [if_pos e2] at h ⊢
      have := of_decide_eq_true h
      rw [if_pos e2, if_pos (by rw [bytesOf_len]; omega), strOfNums_bytesOf, List.length_eq_zero_iff.1 this.2.2, this.2.1]
    · rw [if_neg e2] at h ⊢
      rw [if_neg e2]
      by_cases e3 : k = 6
      · rw [if_pos e3] at h ⊢
        rw [Bool.and_eq_true] at h
        have := of_decide_eq_true h.2
        rw [if_pos e3, getOid_put h.1, if_pos rfl, size0 this.2, this.1]
      · rw [if_neg e3] at h ⊢
        rw [if_neg e3]
        by_cases e4 : k = 5 ∨ k = 128 ∨ k = 130
        · rw [if_pos e4] at h
          have := of_decide_eq_true h
          rw [if_pos ⟨rfl, e4⟩, size0 this.2.1, this.1, List.length_eq_zero_iff.1 this.2.2]
        · rw [if_neg e4] at h; simp at h
theorem tellVal_bytes {t : Int} {b : List Int} (hB : B b) {k n : Int} {s : ByteArray} {o : List Int} (h : tellVal t b = (k, n, s, o, true)) : k = t ∧ valOk k n s o = true ∧ valBody k n s o = b := by
  unfold tellVal at h
  unfold valOk valBody
  by_cases e1 : t = 2
  · rw [if_pos e1] at h
    split at h
    · rename_i g
      simp only [Prod.mk.injEq, and_true] at h
      obtain ⟨rfl, rfl, rfl, rfl⟩ := h
      have := getInt_bytes hB (v := (getInt b).1) (by rw [← g])
      rw [if_pos e1, if_pos e1]
      exact ⟨rfl, decide_eq_true ⟨this.2.1, this.2.2, rfl, rfl⟩, this.1⟩
    · simp at h
  · rw [if_neg e1] at h
    by_cases e2 : t = 4
    · rw [if_pos e2] at h
      split at h
      · rename_i g
        simp only [Prod.mk.injEq, and_true] at h
        obtain ⟨rfl, rfl, rfl, rfl⟩ := h
        rw [if_neg e1, if_pos e2, if_neg e1, if_pos e2]
        exact ⟨rfl, decide_eq_true ⟨by rw [strOfNums_size]; exact g, rfl, rfl⟩, bytesOf_strOfNums hB⟩
      · simp at h
    · rw [if_neg e2] at h
      by_cases e3 : t = 6
      · rw [if_pos e3] at h
        split at h
        · rename_i g
          simp only [Prod.mk.injEq, and_true] at h
          obtain ⟨rfl, rfl, rfl, rfl⟩ := h
          have := getOid_bytes (b := b) (o := (getOid b).1) (by rw [← g])
          rw [if_neg e1, if_neg e2, if_pos e3, if_neg e1, if_neg e2, if_pos e3]
          exact ⟨rfl, by rw [this.1]; rfl, this.2⟩
        · simp at h
      · rw [if_neg e3] at h
        split at h
        · rename_i g
          simp only [Prod.mk.injEq, and_true] at h
          obtain ⟨rfl, rfl, rfl, rfl⟩ := h
          rw [if_neg e1, if_neg e2, if_neg e3, if_pos g.2, if_neg e1, if_neg e2, if_neg e3]
          exact ⟨rfl, by decide, (List.length_eq_zero_iff.1 g.1).symm⟩
        · simp at h
theorem tellVal_no {t : Int} {b : List Int} (h : (tellVal t b).2.2.2.2 = false) : tellVal t b = (0, 0, (⟨#[]⟩ : ByteArray), [], false) := by
  unfold tellVal at h ⊢
  split
  · rename_i e
    rw [if_pos e] at h
    split <;> simp_all
  · rename_i e
    rw [if_neg e] at h
    split
    · rename_i e2
      rw [if_pos e2] at h
      split <;> simp_all
    · rename_i e2
      rw [if_neg e2] at h
      split
      · rename_i e3
        rw [if_pos e3] at h
        split <;> simp_all
      · rename_i e3
        rw [if_neg e3] at h
        split <;> simp_all
theorem getVal_put (p q : List Int) {k n : Int} {s : ByteArray} {o : List Int} (h : valOk k n s o = true) : getVal (putVal p k n s o ++ q) (p.length : Int) = (k, n, s, o, ((putVal p k n s o).length : Int), true) := by
  have hk := valOk_kind h
  unfold getVal putVal
  rw [if_pos h, List.append_assoc, tlvAt_put p q (by omega) (by omega)]
  simp only
  rw [tellVal_put h, if_pos rfl, List.length_append]
  simp
theorem getVal_bytes {l : List Int} (hB : B l) {a : Int} {k n : Int} {s : ByteArray} {o : List Int} {e : Int} (h : getVal l a = (k, n, s, o, e, true)) : valOk k n s o = true ∧ 0 ≤ a ∧ a ≤ e ∧ e ≤ l.length ∧ putVal [] k n s o = (l.take e.toNat).drop a.toNat ∧ l.drop a.toNat = putVal [] k n s o ++ l.drop e.toNat := by
  unfold getVal at h
  cases ht : tlvAt l a with
  | none => rw [ht] at h; simp at h
  | some x =>
    obtain ⟨t, b, m⟩ := x
    rw [ht] at h
    simp only at h
    have hr := tlvAt_range hB ht
    have hb := tlvAt_bytes hB ht
    split at h
    · rename_i g
      simp only [Prod.mk.injEq, and_true] at h
      obtain ⟨h1, h2, h3, h4, rfl⟩ := h
      have hv := tellVal_bytes (k := k) (n := n) (s := s) (o := o) hr.2.2.2.1 (t := t) (by rw [← h1, ← h2, ← h3, ← h4, ← g])
      have e0 : putVal [] k n s o = tlv t b := by unfold putVal; rw [if_pos hv.2.1, hv.2.2, hv.1]; rfl
      refine ⟨hv.2.1, hr.1, by omega, hr.2.2.1, ?_, by rw [e0]; exact hb.1⟩
      rw [e0]
      have hd := congrArg (List.take (tlv t b).length) hb.1
      rw [List.take_left] at hd
      rw [← hd, List.drop_take]
      congr 1
      omega
    · simp at h
theorem getVal_no {l : List Int} {a : Int} (h : (getVal l a).2.2.2.2.2 = false) : getVal l a = (0, 0, (⟨#[]⟩ : ByteArray), [], 0, false) := by
  unfold getVal at h ⊢
  cases ht : tlvAt l a with
  | none => rfl
  | some x =>
    rw [ht] at h
    simp only at h ⊢
    split at h
    · simp at h
    · rename_i g; rw [if_neg g]
end Go.Proofs.Ytkcgghgkmgbphaa.Base
