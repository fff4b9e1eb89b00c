/- Frames in plain words: what bytes a frame has, what frame bytes are, and that the program's way of reading (write it again and compare) tells the same as the reference's. Conditions: lists of bytes (B), as each lemma names them. -/
import Derived.Test.YtkcgghgkmgbphaaBytesFnFrames
namespace Go.Proofs.Ytkcgghgkmgbphaa.Base
open Go.RowKit Go.Proofs.YtkcgghgkmgbphaaW.PrintWords

theorem str_inj {a b : List Int} (ha : B a) (hb : B b) : (strOfNums a).toList = (strOfNums b).toList ↔ a = b := by
  constructor
  · intro h
    rw [Go.ByteArray.toList_eq, Go.ByteArray.toList_eq, strOfNums_data, strOfNums_data] at h
    have hl : a.length = b.length := by simpa using congrArg List.length h
    apply List.ext_getElem hl
    intro i h1 h2
    have h3 : UInt8.ofNat (a[i]).toNat = UInt8.ofNat (b[i]).toNat := by
      have := congrArg (fun l => l[i]?) h
      simpa [List.getElem?_eq_getElem h1, List.getElem?_eq_getElem h2] using this
    have e1 := ha a[i] (List.getElem_mem h1)
    have e2 := hb b[i] (List.getElem_mem h2)
    have h4 := congrArg UInt8.toNat h3
    have m8 : ∀ n : Nat, (UInt8.ofNat n).toNat = n % 256 := fun n => by simp
    rw [m8, m8] at h4
    omega
  · rintro rfl; rfl

def frameOk (d s t : Int) (b : List Int) : Bool := decide (0 ≤ d ∧ d ≤ 9999 ∧ 1 ≤ s ∧ s ≤ 9999 ∧ 0 ≤ t ∧ t ≤ 99 ∧ b.length ≤ 20)
def frameBytes (d s : Int) (t : Option Int) (b : List Int) : List Int := tlv 1 (putInt d) ++ (tlv 1 (putInt s) ++ ((match t with | none => [] | some t => tlv 2 (putInt t)) ++ tlv 3 b))
def putFrame (d s t : Int) (b : List Int) : List Int := bif frameOk d s t b then frameBytes d s (if t = 0 then none else some t) b else []
/-- Is there a part of the tag 2 next? -/
def taggedAt (l : List Int) (a : Int) : Bool := (tlv4 l a).2.2.2 && (tlv4 l a).1 == 2
def getFrame (l : List Int) : Int × Int × Int × List Int × Bool :=
  let a := xNum l 0 false 1
  let b := nextNum l a 1
  let g := taggedAt l b.2.1
  let c := bif g then nextNum l b 2 else (0, b.2.1, b.2.2)
  let p := xPart l c.2.1 c.2.2 3
  bif !p.2.2 && (p.2.1 == (l.length : Int) && (frameOk a.1 b.1 c.1 p.1 && !(g && c.1 == 0))) then (a.1, b.1, c.1, p.1, true) else (0, 0, 0, [], false)
theorem frameBytes_B (d s : Int) (t : Option Int) {b : List Int} (hb : B b) (hl : b.length ≤ 255) : B (frameBytes d s t b) := by
  have hp : ∀ t v, B (tlv t (putInt v)) := fun t v => tlv_B (putInt_B v) (by have := putInt_len v; omega)
  unfold frameBytes
  refine (hp _ _).app ((hp _ _).app (B.app ?_ (tlv_B hb hl)))
  cases t with
  | none => exact B.nil
  | some t => exact hp _ _
theorem frameBytes_len (d s : Int) (t : Option Int) (b : List Int) : 8 ≤ (frameBytes d s t b).length ∧ (frameBytes d s t b).length ≤ b.length + 21 := by
  have h1 := putInt_tlv_len 1 d
  have h2 := putInt_tlv_len 1 s
  have h4 := tlv_len 3 b
  unfold frameBytes
  simp only [List.length_append]
  cases t with
  | none => simp only [List.length_nil]; split at h4 <;> omega
  | some t => have h3 := putInt_tlv_len 2 t; simp only; split at h4 <;> omega
theorem putFrame_B (d s t : Int) {b : List Int} (hb : B b) : B (putFrame d s t b) := by
  unfold putFrame
  cases h : frameOk d s t b with
  | false => exact B.nil
  | true => exact frameBytes_B _ _ _ hb (by simp [frameOk] at h; omega)
/-- The next number's part begins with its tag; where the reader is bad, so is what follows. -/
theorem nextNum_bad {l : List Int} {p : Int × Int × Bool} (h : p.2.2 = true) (tag : Int) : nextNum l p tag = (0, p.2.1, true) := by unfold nextNum; rw [h, xNum_bad]
/-- The program asks for the byte 2 alone; where no whole part stands there, both readers fail. -/
def taggedBy (l : List Int) (p : Int × Int × Bool) : Bool := !p.2.2 && (decide (p.2.1 < (l.length : Int)) && rd l p.2.1 == 2)
theorem tagged_same {l : List Int} {p : Int × Int × Bool} (h0 : 0 ≤ p.2.1) :
    (let c := bif taggedBy l p then nextNum l p 2 else (0, p.2.1, p.2.2); xPart l c.2.1 c.2.2 3) = (let c := bif taggedAt l p.2.1 then nextNum l p 2 else (0, p.2.1, p.2.2); xPart l c.2.1 c.2.2 3) ∧
    ((let c := bif taggedAt l p.2.1 then nextNum l p 2 else (0, p.2.1, p.2.2); xPart l c.2.1 c.2.2 3).2.2 = false → p.2.2 = false ∧ taggedBy l p = taggedAt l p.2.1) := by
  obtain ⟨v, a, bad⟩ := p
  simp only at h0 ⊢
  cases bad with
  | true =>
    have e1 : nextNum l (v, a, true) 2 = (0, a, true) := nextNum_bad rfl 2
    rw [e1]
    cases taggedAt l a <;> simp [taggedBy, xPart_bad]
  | false =>
    cases he : tlvAt l a with
    | none =>
      have g1 : taggedAt l a = false := by simp [taggedAt, tlv4, he]
      rw [g1]
      have e2 : xPart l a false 3 = ([], a, true) := by unfold xPart; rw [he]; rfl
      have e3 : nextNum l (v, a, false) 2 = (0, a, true) := by
        show xNum l a false 2 = _
        have : xPart l a false 2 = ([], a, true) := by unfold xPart; rw [he]; rfl
        unfold xNum; rw [this]; rfl
      cases taggedBy l (v, a, false) <;> simp [e2, e3, xPart_bad]
    | some x =>
      obtain ⟨t, b, n⟩ := x
      have ht : t = rd l a ∧ a + 1 < l.length := by
        unfold tlvAt at he
        split at he
        · rename_i h1
          refine ⟨?_, h1.2⟩
          split at he <;> split at he <;> simp at he <;> exact he.1.symm
        · simp at he
      have g1 : taggedAt l a = (t == 2) := by simp [taggedAt, tlv4, he]
      have g2 : taggedBy l (v, a, false) = (t == 2) := by
        unfold taggedBy
        rw [← ht.1, decide_eq_true (by simp only; omega)]
        rfl
      rw [g1, g2]
      exact ⟨rfl, fun _ => ⟨rfl, rfl⟩⟩
/-- What was read to the end: all of the bytes. -/
theorem frame_all {l : List Int} (hB : B l) {g : Bool} :
    let a := xNum l 0 false 1
    let b := nextNum l a 1
    let c := bif g then nextNum l b 2 else (0, b.2.1, b.2.2)
    let p := xPart l c.2.1 c.2.2 3
    p.2.2 = false → p.2.1 = (l.length : Int) → l = frameBytes a.1 b.1 (bif g then some c.1 else none) p.1 ∧ p.1.length ≤ 250 ∧ B p.1 := by
  intro a b c p hp hn
  have hc : c.2.2 = false := (xPart_bytes hB hp).1
  obtain ⟨_, _, p3, p4, p5, p6, p7, p8⟩ := xPart_bytes hB hp
  have key : b.2.2 = false ∧ l.drop b.2.1.toNat = (match (bif g then some c.1 else none : Option Int) with | none => [] | some t => tlv 2 (putInt t)) ++ l.drop c.2.1.toNat := by
    cases g with
    | false => exact ⟨hc, rfl⟩
    | true =>
      have hc2 : (xNum l b.2.1 b.2.2 2).2.2 = false := hc
      obtain ⟨q1, q2, _⟩ := xNum_bytes hB hc2
      exact ⟨q1, q2⟩
  obtain ⟨b1, b2, _⟩ := xNum_bytes hB (show (xNum l a.2.1 a.2.2 1).2.2 = false from key.1)
  obtain ⟨_, a2, _⟩ := xNum_bytes hB (show (xNum l 0 false 1).2.2 = false from b1)
  refine ⟨?_, p8, p7⟩
  have e0 : l = l.drop (0 : Int).toNat := rfl
  have hz : l.drop p.2.1.toNat = [] := List.drop_of_length_le (by omega)
  unfold frameBytes
  calc l = l.drop (0 : Int).toNat := rfl
    _ = tlv 1 (putInt a.1) ++ l.drop a.2.1.toNat := a2
    _ = tlv 1 (putInt a.1) ++ (tlv 1 (putInt b.1) ++ l.drop b.2.1.toNat) := by rw [show l.drop a.2.1.toNat = tlv 1 (putInt b.1) ++ l.drop b.2.1.toNat from b2]
    _ = tlv 1 (putInt a.1) ++ (tlv 1 (putInt b.1) ++ ((match (bif g then some c.1 else none : Option Int) with | none => [] | some t => tlv 2 (putInt t)) ++ l.drop c.2.1.toNat)) := by rw [key.2]
    _ = _ := by rw [show l.drop c.2.1.toNat = tlv 3 p.1 ++ l.drop p.2.1.toNat from p3, hz, List.append_nil]
/-- The program's way: write what was read again, and compare. -/
theorem frame_again {l : List Int} (hB : B l) :
    let a := xNum l 0 false 1
    let b := nextNum l a 1
    let g := taggedAt l b.2.1
    let c := bif g then nextNum l b 2 else (0, b.2.1, b.2.2)
    let p := xPart l c.2.1 c.2.2 3
    p.2.2 = false → p.2.1 = (l.length : Int) → ((putFrame a.1 b.1 c.1 p.1).length ≠ 0 ∧ putFrame a.1 b.1 c.1 p.1 = l ↔ (frameOk a.1 b.1 c.1 p.1 && !(g && c.1 == 0)) = true) := by
  intro a b g c p hp hn
  obtain ⟨hl, h250, hpB⟩ := frame_all hB (g := g) hp hn
  have hl : l = frameBytes a.1 b.1 (bif g then some c.1 else none) p.1 := hl
  have hlen := frameBytes_len a.1 b.1
  unfold putFrame
  cases hok : frameOk a.1 b.1 c.1 p.1 with
  | false => simp
  | true =>
    simp only [cond_true, Bool.true_and, Bool.not_eq_true', Bool.and_eq_false_iff, beq_eq_false_iff_ne]
    have hg : g = false → c.1 = 0 := fun h => by simp only [c, h, cond_false]
    by_cases h0 : c.1 = 0
    · rw [if_pos h0]
      cases hgg : g with
      | false =>
        rw [hgg] at hl
        refine ⟨fun _ => .inl rfl, fun _ => ⟨by have := hlen none p.1; omega, hl.symm⟩⟩
      | true =>
        rw [hgg] at hl
        constructor
        · rintro ⟨_, h⟩
          exfalso
          have h2 := congrArg List.length (h.trans hl)
          unfold frameBytes at h2
          have h3 := putInt_tlv_len 2 c.1
          simp only [cond_true, List.length_append, List.length_nil] at h2
          omega
        · rintro (h | h)
          · simp at h
          · exact absurd h0 h
    · rw [if_neg h0]
      cases hgg : g with
      | false => exact absurd (hg hgg) h0
      | true =>
        rw [hgg] at hl
        exact ⟨fun _ => .inr h0, fun _ => ⟨by have := hlen (some c.1) p.1; omega, hl.symm⟩⟩
/-- A frame that is right comes back of its bytes. -/
theorem getFrame_put {d s t : Int} {b : List Int} (h : frameOk d s t b = true) : getFrame (putFrame d s t b) = (d, s, t, b, true) := by
  unfold putFrame
  rw [h, cond_true]
  have hok := h
  simp only [frameOk, decide_eq_true_eq] at hok
  unfold frameBytes
  have e1 : xNum (tlv 1 (putInt d) ++ (tlv 1 (putInt s) ++ ((match (if t = 0 then none else some t : Option Int) with | none => [] | some t => tlv 2 (putInt t)) ++ tlv 3 b))) 0 false 1 = (d, ((tlv 1 (putInt d)).length : Int), false) := by
    have := xNum_put [] (tlv 1 (putInt s) ++ ((match (if t = 0 then none else some t : Option Int) with | none => [] | some t => tlv 2 (putInt t)) ++ tlv 3 b)) (t := 1) d (by omega)
    rw [clip_of (by omega) (by omega)] at this
    simpa using this
  have e2 : nextNum (tlv 1 (putInt d) ++ (tlv 1 (putInt s) ++ ((match (if t = 0 then none else some t : Option Int) with | none => [] | some t => tlv 2 (putInt t)) ++ tlv 3 b))) (d, ((tlv 1 (putInt d)).length : Int), false) 1 = (s, ((tlv 1 (putInt d) ++ tlv 1 (putInt s)).length : Int), false) := by
    have := xNum_put (tlv 1 (putInt d)) ((match (if t = 0 then none else some t : Option Int) with | none => [] | some t => tlv 2 (putInt t)) ++ tlv 3 b) (t := 1) s (by omega)
    rw [clip_of (by omega) (by omega)] at this
    exact this
  unfold getFrame
  simp only [e1, e2]
  by_cases h0 : t = 0
  · subst h0
    simp only [if_true, List.nil_append] at *
    have e3 : tlvAt (tlv 1 (putInt d) ++ (tlv 1 (putInt s) ++ tlv 3 b)) ((tlv 1 (putInt d) ++ tlv 1 (putInt s)).length : Int) = some (3, b, ((tlv 1 (putInt d) ++ tlv 1 (putInt s)).length : Int) + (tlv 3 b).length) := by
      have := tlvAt_put (tlv 1 (putInt d) ++ tlv 1 (putInt s)) [] (t := 3) (b := b) (by omega) (by omega)
      simpa using this
    have e4 : taggedAt (tlv 1 (putInt d) ++ (tlv 1 (putInt s) ++ tlv 3 b)) ((tlv 1 (putInt d) ++ tlv 1 (putInt s)).length : Int) = false := by
      unfold taggedAt tlv4; rw [e3]; rfl
    have e5 : xPart (tlv 1 (putInt d) ++ (tlv 1 (putInt s) ++ tlv 3 b)) ((tlv 1 (putInt d) ++ tlv 1 (putInt s)).length : Int) false 3 = (b, ((tlv 1 (putInt d) ++ tlv 1 (putInt s)).length : Int) + (tlv 3 b).length, false) := by
      unfold xPart; rw [e3]; rfl
    rw [e4]
    simp only [cond_false, e5, h]
    have hq : (((tlv 1 (putInt d) ++ tlv 1 (putInt s)).length : Int) + (tlv 3 b).length == ((tlv 1 (putInt d) ++ (tlv 1 (putInt s) ++ tlv 3 b)).length : Int)) = true := beq_iff_eq.2 (by simp only [List.length_append]; omega)
    rw [hq]; rfl
  · simp only [if_neg h0] at *
    have e3 : tlvAt (tlv 1 (putInt d) ++ (tlv 1 (putInt s) ++ (tlv 2 (putInt t) ++ tlv 3 b))) ((tlv 1 (putInt d) ++ tlv 1 (putInt s)).length : Int) = some (2, putInt t, ((tlv 1 (putInt d) ++ tlv 1 (putInt s)).length : Int) + (tlv 2 (putInt t)).length) := by
      have := tlvAt_put (tlv 1 (putInt d) ++ tlv 1 (putInt s)) (tlv 3 b) (t := 2) (b := putInt t) (by omega) (by have := putInt_len t; omega)
      simpa using this
    have e4 : taggedAt (tlv 1 (putInt d) ++ (tlv 1 (putInt s) ++ (tlv 2 (putInt t) ++ tlv 3 b))) ((tlv 1 (putInt d) ++ tlv 1 (putInt s)).length : Int) = true := by
      unfold taggedAt tlv4; rw [e3]; rfl
    have e5 : nextNum (tlv 1 (putInt d) ++ (tlv 1 (putInt s) ++ (tlv 2 (putInt t) ++ tlv 3 b))) (s, ((tlv 1 (putInt d) ++ tlv 1 (putInt s)).length : Int), false) 2 = (t, ((tlv 1 (putInt d) ++ tlv 1 (putInt s) ++ tlv 2 (putInt t)).length : Int), false) := by
      have := xNum_put (tlv 1 (putInt d) ++ tlv 1 (putInt s)) (tlv 3 b) (t := 2) t (by omega)
      rw [clip_of (by omega) (by omega)] at this
      simpa [nextNum] using this
    have e6 : xPart (tlv 1 (putInt d) ++ (tlv 1 (putInt s) ++ (tlv 2 (putInt t) ++ tlv 3 b))) ((tlv 1 (putInt d) ++ tlv 1 (putInt s) ++ tlv 2 (putInt t)).length : Int) false 3 = (b, ((tlv 1 (putInt d) ++ tlv 1 (putInt s) ++ tlv 2 (putInt t) ++ tlv 3 b).length : Int), false) := by
      have := xPart_put (tlv 1 (putInt d) ++ tlv 1 (putInt s) ++ tlv 2 (putInt t)) [] (t := 3) (b := b) (by omega) (by omega)
      simpa using this
    rw [e4]
    simp only [cond_true, e5, e6, h]
    have hq : (((tlv 1 (putInt d) ++ tlv 1 (putInt s) ++ tlv 2 (putInt t) ++ tlv 3 b).length : Int) == ((tlv 1 (putInt d) ++ (tlv 1 (putInt s) ++ (tlv 2 (putInt t) ++ tlv 3 b))).length : Int)) = true := beq_iff_eq.2 (by simp only [List.length_append]; omega)
    rw [hq, beq_eq_false_iff_ne.2 h0]; rfl
end Go.Proofs.Ytkcgghgkmgbphaa.Base
