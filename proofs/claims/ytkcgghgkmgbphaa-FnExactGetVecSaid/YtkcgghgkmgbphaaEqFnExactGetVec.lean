/- What the printed functions of FnExactGetVec answer, said in plain words of lists and numbers. Conditions: sizes and ranges, as each lemma names them. -/
import Derived.Test.YtkcgghgkmgbphaaPFnExactGetVecx8
import Derived.Test.YtkcgghgkmgbphaaBase
namespace Go.Proofs.Ytkcgghgkmgbphaa.EqFnExactGetVec
open Go.RowKit Go.Proofs.Ytkcgghgkmgbphaa.PFnExactGetVec Go.Proofs.YtkcgghgkmgbphaaW.PrintWords Go.Proofs.YtkcgghgkmgbphaaW.PrintLast Go.Proofs.Ytkcgghgkmgbphaa.Base
theorem spec_l1In_eq (a b c : Int) : spec_l1In.f a b c = some (decide (b ≤ a ∧ a ≤ c)) := by
  unfold spec_l1In.f
  by_cases h : a ≥ b
  · rw [if_pos h]; congr 1; simp; omega
  · rw [if_neg h]; congr 1; simp; omega
theorem impl_in_eq (a b c : Int) : impl_in.f a b c = some (decide (b ≤ a ∧ a ≤ c)) := by
  unfold impl_in.f
  by_cases h : a ≥ b
  · rw [if_pos h]; congr 1; simp; omega
  · rw [if_neg h]; congr 1; simp; omega
theorem toByteS_l0 (xs : List Int) (hn : xs.length ≤ 1099511627776) (d : Nat) : ∀ (k i : Nat) (ys : List Int), ys.length = xs.length → ys.take i = xs.take i → i ≤ xs.length → xs.length - i = d → d < k → laws_toByteS.l0 k xs ys (i : Int) = some xs := by
  induction d with
  | zero =>
    intro k i ys hl ht hi hd hk
    obtain ⟨k, rfl⟩ : ∃ m, k = m + 1 := ⟨k - 1, by omega⟩
    simp only [laws_toByteS.l0]
    rw [if_neg (by omega)]
    rw [List.take_of_length_le (by omega), List.take_of_length_le (by omega)] at ht
    rw [ht]
  | succ d ih =>
    intro k i ys hl ht hi hd hk
    obtain ⟨k, rfl⟩ : ∃ m, k = m + 1 := ⟨k - 1, by omega⟩
    have hlt : i < xs.length := by omega
    simp only [laws_toByteS.l0]
    rw [if_pos (by omega), if_pos (by omega), if_pos (by omega), w64 (by omega) (by omega)]
    have := ih k (i + 1) (ys.set i (rd xs (i : Int))) (by rw [List.length_set]; exact hl) (set_take hl ht hlt) (by omega) (by omega) (by omega)
    simpa using this
theorem toByteS_eq {xs : List Int} (hn : xs.length ≤ 1099511627776) {k : Nat} (hk : xs.length < k) : laws_toByteS.f k xs = some xs := by
  unfold laws_toByteS.f
  rw [if_pos (by omega), if_pos (by omega)]
  have := toByteS_l0 xs hn xs.length k 0 (List.replicate xs.length 0) (by simp) (by simp) (by omega) (by omega) hk
  simpa using this
theorem eqByteS_l0 (xs : List Int) (hn : xs.length ≤ 1099511627776) (d : Nat) : ∀ (k i : Nat), xs.length - i = d → d < k → laws_eqByteS.l0 k xs xs (i : Int) = some true := by
  induction d with
  | zero =>
    intro k i hd hk
    obtain ⟨k, rfl⟩ : ∃ m, k = m + 1 := ⟨k - 1, by omega⟩
    simp only [laws_eqByteS.l0]
    rw [if_neg (by omega)]
  | succ d ih =>
    intro k i hd hk
    obtain ⟨k, rfl⟩ : ∃ m, k = m + 1 := ⟨k - 1, by omega⟩
    simp only [laws_eqByteS.l0]
    rw [if_pos (by omega), if_pos (by omega), if_pos (by omega), if_true, w64 (by omega) (by omega)]
    have := ih k (i + 1) (by omega) (by omega)
    simpa using this
theorem eqByteS_self {xs : List Int} (hn : xs.length ≤ 1099511627776) {k : Nat} (hk : xs.length < k) : laws_eqByteS.f k xs xs = some true := by
  unfold laws_eqByteS.f
  rw [if_pos rfl]
  have := eqByteS_l0 xs hn xs.length k 0 (by omega) hk
  simpa using this
theorem spec_l1Clip_eq (n : Int) : spec_l1Clip.f n = some (clip n) := by
  unfold spec_l1Clip.f clip
  repeat' split
  all_goals first | rfl | omega
theorem spec_PutInt_eq (n : Int) {k : Nat} (hk : 10 ≤ k) : spec_PutInt.f k n = some (putInt n) := by
  unfold spec_PutInt.f
  rw [spec_l1Clip_eq, Option.bind_some]
  unfold putInt
  obtain ⟨h0, h1⟩ := clip_range n
  generalize clip n = c at *
  obtain ⟨k, rfl⟩ : ∃ m, k = m + 5 := ⟨k - 5, by omega⟩
  have step : ∀ (k : Nat) (x : Int) (l : List Int), ¬ (-128 ≤ x ∧ x ≤ 127) → l.length < 1000 → spec_PutInt.l0 (k + 1) x l = spec_PutInt.l0 k (x / 256) ((x / 256) % 256 :: l) := by
    intro k x l hx hl
    simp only [spec_PutInt.l0, Option.bind_some, List.length_cons, List.length_nil, List.cons_append, List.nil_append]
    by_cases c : x < -128
    · rw [if_pos c, if_pos (by omega)]
    · rw [if_neg c, if_pos (by omega), if_pos (by omega)]
  have stop : ∀ (k : Nat) (x : Int) (l : List Int), (-128 ≤ x ∧ x ≤ 127) → spec_PutInt.l0 (k + 1) x l = some l := by
    intro k x l hx
    simp only [spec_PutInt.l0]
    rw [if_neg (by omega), if_neg (by omega)]
  unfold intBytes
  by_cases c1 : -128 ≤ c ∧ c ≤ 127
  · rw [if_pos c1]; exact stop _ _ _ c1
  · rw [if_neg c1, step _ _ _ c1 (by simp)]
    by_cases c2 : -32768 ≤ c ∧ c ≤ 32767
    · rw [if_pos c2]; exact stop _ _ _ (by omega)
    · rw [if_neg c2, step _ _ _ (by omega) (by simp)]
      by_cases c3 : -8388608 ≤ c ∧ c ≤ 8388607
      · rw [if_pos c3, stop _ _ _ (by omega), show c / 256 / 256 = c / 65536 by omega]
      · rw [if_neg c3, step _ _ _ (by omega) (by simp), stop _ _ _ (by omega), show c / 256 / 256 = c / 65536 by omega, show c / 65536 / 256 = c / 16777216 by omega]
theorem impl_PutInt_eq (n : Int) {k : Nat} (hk : 20 ≤ k) : impl_PutInt.f k n = some (putInt n) := by
  unfold impl_PutInt.f
  rw [mxmn]
  unfold putInt
  obtain ⟨h0, h1⟩ := clip_range n
  generalize clip n = c at *
  obtain ⟨k, rfl⟩ : ∃ m, k = m + 12 := ⟨k - 12, by omega⟩
  have nx : ∀ (k : Nat) (j : Int) (lo hi : Int), j < 4 → 0 ≤ wrap64 (wrap64 (8 * j) - 1) → shl .i64 (-1) (wrap64 (wrap64 (8 * j) - 1)) = lo → wrap64 (shl .i64 1 (wrap64 (wrap64 (8 * j) - 1)) - 1) = hi →
      impl_PutInt.l0 (k + 1) c j = if lo ≤ c ∧ c ≤ hi then impl_PutInt.j1 k c j else impl_PutInt.l0 k c (wrap64 (j + 1)) := by
    intro k j lo hi hj hs e1 e2
    simp only [impl_PutInt.l0]
    rw [if_pos hj, if_pos hs, e1, e2, impl_in_eq, Option.bind_some]
    by_cases h : lo ≤ c ∧ c ≤ hi
    · rw [if_pos (by simpa using h), if_pos h]
    · rw [if_neg (by simpa using h), if_neg h]
  have out : ∀ (k : Nat) (l : List Int) (j : Int) (v : Int), 0 ≤ j → j ≤ 3 → l.length < 1000 → shr .i64 c (wrap64 (8 * j)) = v → impl_PutInt.l1 (k + 1) c l j = impl_PutInt.l1 k c (l ++ [v % 256]) (wrap64 (j - 1)) := by
    intro k l j v hj hj3 hl hv
    simp only [impl_PutInt.l1]
    rw [if_pos hj, if_pos (by rw [w64 (by omega) (by omega)]; omega), if_pos (by omega), hv]
  have fin : ∀ (k : Nat) (l : List Int), impl_PutInt.l1 (k + 1) c l (-1) = some l := by
    intro k l
    simp only [impl_PutInt.l1]
    rw [if_neg (by omega)]
  have s0 : shr .i64 c (wrap64 (8 * 0)) = c := by unfold shr; rw [show (2 : Int) ^ min (wrap64 (8 * 0)).toNat IntKind.i64.bits = 1 by decide +kernel, Int.ediv_one]
  have s1 : shr .i64 c (wrap64 (8 * 1)) = c / 256 := by unfold shr; rw [show (2 : Int) ^ min (wrap64 (8 * 1)).toNat IntKind.i64.bits = 256 by decide +kernel]
  have s2 : shr .i64 c (wrap64 (8 * 2)) = c / 65536 := by unfold shr; rw [show (2 : Int) ^ min (wrap64 (8 * 2)).toNat IntKind.i64.bits = 65536 by decide +kernel]
  have s3 : shr .i64 c (wrap64 (8 * 3)) = c / 16777216 := by unfold shr; rw [show (2 : Int) ^ min (wrap64 (8 * 3)).toNat IntKind.i64.bits = 16777216 by decide +kernel]
  have w1 : wrap64 (1 - 1) = 0 := by decide +kernel
  have w2 : wrap64 (2 - 1) = 1 := by decide +kernel
  have w3 : wrap64 (3 - 1) = 2 := by decide +kernel
  have w4 : wrap64 (4 - 1) = 3 := by decide +kernel
  have w0 : wrap64 (0 - 1) = -1 := by decide +kernel
  unfold intBytes
  rw [nx (k + 11) 1 (-128) 127 (by omega) (by decide +kernel) (by decide +kernel) (by decide +kernel)]
  by_cases c1 : -128 ≤ c ∧ c ≤ 127
  · rw [if_pos c1, if_pos c1]
    simp only [impl_PutInt.j1]
    rw [w1, out _ _ 0 c (by omega) (by omega) (by simp) s0, w0, fin]
    rfl
  · rw [if_neg c1, if_neg c1, show wrap64 (1 + 1) = 2 by decide +kernel, nx _ 2 (-32768) 32767 (by omega) (by decide +kernel) (by decide +kernel) (by decide +kernel)]
    by_cases c2 : -32768 ≤ c ∧ c ≤ 32767
    · rw [if_pos c2, if_pos c2]
      simp only [impl_PutInt.j1]
      rw [w2, out _ _ 1 _ (by omega) (by omega) (by simp) s1, w1, out _ _ 0 c (by omega) (by omega) (by simp) s0, w0, fin]
      rfl
    · rw [if_neg c2, if_neg c2, show wrap64 (2 + 1) = 3 by decide +kernel, nx _ 3 (-8388608) 8388607 (by omega) (by decide +kernel) (by decide +kernel) (by decide +kernel)]
      by_cases c3 : -8388608 ≤ c ∧ c ≤ 8388607
      · rw [if_pos c3, if_pos c3]
        simp only [impl_PutInt.j1]
        rw [w3, out _ _ 2 _ (by omega) (by omega) (by simp) s2, w2, out _ _ 1 _ (by omega) (by omega) (by simp) s1, w1, out _ _ 0 c (by omega) (by omega) (by simp) s0, w0, fin]
        rfl
      · rw [if_neg c3, if_neg c3, show wrap64 (3 + 1) = 4 by decide +kernel]
        have : impl_PutInt.l0 (k + 8 + 1) c 4 = impl_PutInt.j1 (k + 8) c 4 := by simp only [impl_PutInt.l0]; rw [if_neg (by omega)]
        rw [this]
        simp only [impl_PutInt.j1]
        rw [w4, out _ _ 3 _ (by omega) (by omega) (by simp) s3, w3, out _ _ 2 _ (by omega) (by omega) (by simp) s2, w2, out _ _ 1 _ (by omega) (by omega) (by simp) s1, w1, out _ _ 0 c (by omega) (by omega) (by simp) s0, w0, fin]
        rfl
theorem spec_GetTlv_eq {l : List Int} (hB : B l) (hl : l.length ≤ 1099511627776) {a : Int} (ha : -9223372036854775808 ≤ a ∧ a ≤ 9223372036854775807) : spec_GetTlv.f l a = some (tlv4 l a) := by
  have b1 := hB.at_ (a + 1)
  have b2 := hB.at_ (a + 2)
  have b0 := hB.at_ a
  unfold tlv4 tlvAt
  by_cases h : 0 ≤ a ∧ a + 1 < l.length
  · rw [if_pos h]
    obtain ⟨h0, h1⟩ := h
    have w1 : wrap64 (a + 1) = a + 1 := w64 (by omega) (by omega)
    have w2 : wrap64 (a + 2) = a + 2 := w64 (by omega) (by omega)
    have w3 : wrap64 (a + 2 + 1) = a + 3 := by rw [w64 (by omega) (by omega)]; omega
    have v0 : wrap64 (rd l a) = rd l a := w64 (by omega) (by omega)
    have v1 : wrap64 (rd l (a + 1)) = rd l (a + 1) := w64 (by omega) (by omega)
    have v2 : wrap64 (rd l (a + 2)) = rd l (a + 2) := w64 (by omega) (by omega)
    have s2 : wrap64 ((l.length : Int) - (a + 2)) = l.length - (a + 2) := w64 (by omega) (by omega)
    have s3 : wrap64 ((l.length : Int) - (a + 3)) = l.length - (a + 3) := w64 (by omega) (by omega)
    have t2 : wrap64 (a + 2 + rd l (a + 1)) = a + 2 + rd l (a + 1) := w64 (by omega) (by omega)
    have t3 : wrap64 (a + 3 + rd l (a + 2)) = a + 3 + rd l (a + 2) := w64 (by omega) (by omega)
    unfold spec_GetTlv.f
    simp only [w1, w2, w3, v0, v1, v2, s2, s3, t2, t3, Option.bind_some, List.nil_append, List.length_nil, Nat.zero_add]
    rw [if_neg (by omega), if_neg (by omega), if_neg (by omega), if_pos (by omega), if_pos (by omega)]
    by_cases c : rd l (a + 1) < 128
    · rw [if_pos c, if_neg (by omega), if_neg (by omega)]
      by_cases c2 : a + 2 + rd l (a + 1) ≤ l.length
      · rw [if_neg (by omega), if_pos (by omega), if_pos (by omega), if_pos (by omega), if_pos (by omega), if_pos (by omega), if_pos (by rw [List.length_drop, List.length_take]; omega), if_pos c2]
      · rw [if_pos (by omega), if_neg c2]
    · rw [if_neg c, if_pos (by omega)]
      by_cases d : rd l (a + 1) = 129
      · rw [if_pos d]
        by_cases d2 : a + 2 ≥ (l.length : Int)
        · rw [if_pos d2, if_neg (by omega)]
        · rw [if_neg d2, if_pos (by omega), if_pos (by omega)]
          by_cases d3 : rd l (a + 2) < 128
          · rw [if_pos d3, if_neg (by omega)]
          · rw [if_neg d3]
            by_cases d4 : rd l (a + 2) > 250
            · rw [if_pos d4, if_neg (by omega)]
            · rw [if_neg d4]
              by_cases d5 : rd l (a + 2) > l.length - (a + 3)
              · rw [if_pos d5, if_neg (by omega)]
              · rw [if_neg d5, if_pos (by omega), if_pos (by omega), if_pos (by omega), if_pos (by omega), if_pos (by omega), if_pos (by rw [List.length_drop, List.length_take]; omega), if_pos (by omega)]
      · rw [if_neg d, if_neg (by omega)]
  · rw [if_neg h]
    unfold spec_GetTlv.f
    by_cases h0 : a < 0
    · rw [if_pos h0]
    · rw [if_neg h0]
      by_cases h1 : a ≥ (l.length : Int)
      · rw [if_pos h1]
      · rw [if_neg h1, if_pos (by rw [w64 (by omega) (by omega)]; omega)]
theorem impl_copyBytes_eq {l : List Int} (hl : l.length ≤ 1099511627776) : impl_copyBytes.f l = some l := by
  unfold impl_copyBytes.f
  rw [if_pos (by simp only [List.length_nil]; omega)]
  rfl
theorem impl_GetTlv_eq {l : List Int} (hB : B l) (hl : l.length ≤ 1099511627776) {a : Int} (ha : -9223372036854775808 ≤ a ∧ a ≤ 9223372036854775807) : impl_GetTlv.f l a = some (tlv4 l a) := by
  have b1 := hB.at_ (a + 1)
  have b2 := hB.at_ (a + 2)
  have b0 := hB.at_ a
  have z2 : wrap64 ((l.length : Int) - 2) = l.length - 2 := w64 (by omega) (by omega)
  unfold tlv4 tlvAt
  by_cases h : 0 ≤ a ∧ a + 1 < l.length
  · rw [if_pos h]
    obtain ⟨h0, h1⟩ := h
    have w1 : wrap64 (a + 1) = a + 1 := w64 (by omega) (by omega)
    have w2 : wrap64 (a + 2) = a + 2 := w64 (by omega) (by omega)
    have w3 : wrap64 (a + 2 + 1) = a + 3 := by rw [w64 (by omega) (by omega)]; omega
    have v0 : wrap64 (rd l a) = rd l a := w64 (by omega) (by omega)
    have v1 : wrap64 (rd l (a + 1)) = rd l (a + 1) := w64 (by omega) (by omega)
    have v2 : wrap64 (rd l (a + 2)) = rd l (a + 2) := w64 (by omega) (by omega)
    have s2 : wrap64 ((l.length : Int) - (a + 2)) = l.length - (a + 2) := w64 (by omega) (by omega)
    have s3 : wrap64 ((l.length : Int) - (a + 3)) = l.length - (a + 3) := w64 (by omega) (by omega)
    have t2 : wrap64 (a + 2 + rd l (a + 1)) = a + 2 + rd l (a + 1) := w64 (by omega) (by omega)
    have t3 : wrap64 (a + 3 + rd l (a + 2)) = a + 3 + rd l (a + 2) := w64 (by omega) (by omega)
    unfold impl_GetTlv.f
    simp only [z2, w1, w2, w3, v0, v1, v2, s2, s3, t2, t3]
    rw [if_neg (by omega), if_neg (by omega), if_pos (by omega), if_pos (by omega)]
    by_cases c : rd l (a + 1) < 128
    · rw [if_pos c, if_neg (by omega), if_neg (by omega)]
      by_cases c2 : a + 2 + rd l (a + 1) ≤ l.length
      · rw [if_neg (by omega), if_pos (by omega), if_pos (by omega), if_pos (by omega), if_pos (by omega), if_pos (by omega), if_pos c2, impl_copyBytes_eq (by rw [List.length_drop, List.length_take]; omega), Option.bind_some]
      · rw [if_pos (by omega), if_neg c2]
    · rw [if_neg c, if_pos (by omega)]
      by_cases d : rd l (a + 1) = 129
      · rw [if_pos d]
        by_cases d2 : a + 2 ≥ (l.length : Int)
        · rw [if_pos d2, if_neg (by omega)]
        · rw [if_neg d2, if_pos (by omega), if_pos (by omega)]
          by_cases d3 : rd l (a + 2) < 128
          · rw [if_pos d3, if_neg (by omega)]
          · rw [if_neg d3]
            by_cases d4 : rd l (a + 2) > 250
            · rw [if_pos d4, if_neg (by omega)]
            · rw [if_neg d4]
              by_cases d5 : rd l (a + 2) > l.length - (a + 3)
              · rw [if_pos d5, if_neg (by omega)]
              · rw [if_neg d5, if_pos (by omega), if_pos (by omega), if_pos (by omega), if_pos (by omega), if_pos (by omega), impl_copyBytes_eq (by rw [List.length_drop, List.length_take]; omega), Option.bind_some, if_pos (by omega)]
      · rw [if_neg d, if_neg (by omega)]
  · rw [if_neg h]
    unfold impl_GetTlv.f
    rw [z2]
    by_cases h0 : a < 0
    · rw [if_pos h0]
    · rw [if_neg h0, if_pos (by omega)]
theorem spec_l4Part_eq {l : List Int} (hB : B l) (hl : l.length ≤ 1099511627776) {a : Int} (ha : -9223372036854775808 ≤ a ∧ a ≤ 9223372036854775807) (bad : Bool) (tag : Int) : spec_l4Part.f l a bad tag = some (xPart l a bad tag) := by
  unfold spec_l4Part.f
  rw [spec_GetTlv_eq hB hl ha, Option.bind_some]
  unfold xPart tlv4
  cases bad with
  | true => simp
  | false =>
    cases tlvAt l a with
    | none => simp
    | some x => obtain ⟨t, b, n⟩ := x; by_cases h : t = tag <;> simp [h]
theorem impl_part_eq {l : List Int} (hB : B l) (hl : l.length ≤ 1099511627776) {a : Int} (ha : -9223372036854775808 ≤ a ∧ a ≤ 9223372036854775807) (bad : Bool) (tag : Int) : impl_parts_part.f l a bad tag = some (xPart l a bad tag) := by
  unfold impl_parts_part.f
  rw [impl_GetTlv_eq hB hl ha, Option.bind_some]
  unfold xPart tlv4
  cases bad with
  | true => simp
  | false =>
    cases tlvAt l a with
    | none => simp
    | some x => obtain ⟨t, b, n⟩ := x; by_cases h : t = tag <;> simp [h]
theorem spec_GetInt_l0 (b : List Int) (hB : B b) (hl : b.length ≤ 4) (d : Nat) : ∀ (k i : Nat) (n : Int), b.length - i = d → d + 20 ≤ k → i ≤ b.length → (∀ m : Nat, m ≤ d → -2147483648 ≤ ((b.drop i).take m).foldl more n ∧ ((b.drop i).take m).foldl more n ≤ 2147483647) →
    spec_GetInt.l0 k b n (i : Int) = some (if (putInt ((b.drop i).foldl more n)).length = b.length then ((b.drop i).foldl more n, true) else (0, false)) := by
  induction d with
  | zero =>
    intro k i n hd hk hi hr
    obtain ⟨k, rfl⟩ : ∃ m, k = m + 1 := ⟨k - 1, by omega⟩
    simp only [spec_GetInt.l0]
    rw [if_neg (by omega), spec_PutInt_eq _ (by omega), Option.bind_some, List.drop_of_length_le (by omega)]
    by_cases h : (putInt n).length = b.length
    · rw [if_pos (by omega)]; exact congrArg some (if_pos h).symm
    · rw [if_neg (by omega)]; exact congrArg some (if_neg h).symm
  | succ d ih =>
    intro k i n hd hk hi hr
    obtain ⟨k, rfl⟩ : ∃ m, k = m + 1 := ⟨k - 1, by omega⟩
    have hlt : i < b.length := by omega
    have hx := hB.at_ (i : Int)
    simp only [spec_GetInt.l0]
    have e : b.drop i = rd b (i : Int) :: b.drop (i + 1) := by
      rw [List.drop_eq_getElem_cons hlt]
      congr 1
      rw [rd_nat, List.getD_eq_getElem?_getD, List.getElem?_eq_getElem hlt]; rfl
    have h1 := hr 1 (by omega)
    rw [e] at h1
    simp only [List.take_succ_cons, List.take_zero, List.foldl_cons, List.foldl_nil, more] at h1
    rw [if_pos (by omega), if_pos (by omega), or_bytes _ _ hx.1 hx.2, w64 (n := (i : Int) + 1) (by omega) (by omega), w64 (by omega) (by omega), e, List.foldl_cons]
    have := ih k (i + 1) (n * 256 + rd b (i : Int)) (by omega) (by omega) (by omega) (fun m hm => by
      have := hr (m + 1) (by omega)
      rw [e, List.take_succ_cons, List.foldl_cons] at this
      exact this)
    exact this
theorem impl_GetInt_l0 (b c : List Int) (hB : B c) (hl : c.length ≤ 4) (d : Nat) : ∀ (k i : Nat) (n : Int), c.length - i = d → d + 30 ≤ k → i ≤ c.length → (∀ m : Nat, m ≤ d → -2147483648 ≤ ((c.drop i).take m).foldl more n ∧ ((c.drop i).take m).foldl more n ≤ 2147483647) →
    impl_GetInt.l0 k b n c (c.length : Int) (i : Int) = some (if (putInt ((c.drop i).foldl more n)).length = b.length then ((c.drop i).foldl more n, true) else (0, false)) := by
  induction d with
  | zero =>
    intro k i n hd hk hi hr
    obtain ⟨k, rfl⟩ : ∃ m, k = m + 1 := ⟨k - 1, by omega⟩
    simp only [impl_GetInt.l0]
    rw [if_neg (by omega), impl_PutInt_eq _ (by omega), Option.bind_some, List.drop_of_length_le (by omega)]
    by_cases h : (putInt n).length = b.length
    · rw [if_pos (by omega)]; exact congrArg some (if_pos h).symm
    · rw [if_neg (by omega)]; exact congrArg some (if_neg h).symm
  | succ d ih =>
    intro k i n hd hk hi hr
    obtain ⟨k, rfl⟩ : ∃ m, k = m + 1 := ⟨k - 1, by omega⟩
    have hlt : i < c.length := by omega
    have hx := hB.at_ (i : Int)
    simp only [impl_GetInt.l0]
    have e : c.drop i = rd c (i : Int) :: c.drop (i + 1) := by
      rw [List.drop_eq_getElem_cons hlt]
      congr 1
      rw [rd_nat, List.getD_eq_getElem?_getD, List.getElem?_eq_getElem hlt]; rfl
    have h1 := hr 1 (by omega)
    rw [e] at h1
    simp only [List.take_succ_cons, List.take_zero, List.foldl_cons, List.foldl_nil, more] at h1
    rw [if_pos (by omega), if_pos (by omega), if_pos (by omega), or_bytes _ _ hx.1 hx.2, w64 (n := (i : Int) + 1) (by omega) (by omega), w64 (by omega) (by omega), e, List.foldl_cons]
    have := ih k (i + 1) (n * 256 + rd c (i : Int)) (by omega) (by omega) (by omega) (fun m hm => by
      have := hr (m + 1) (by omega)
      rw [e, List.take_succ_cons, List.foldl_cons] at this
      exact this)
    exact this
/-- Behind some intBytes a number is still small. -/
theorem fold_small (l : List Int) (hB : B l) (x : Int) (hx : -128 ≤ x ∧ x ≤ 127) (hl : l.length ≤ 3) (m : Nat) : -2147483648 ≤ (l.take m).foldl more x ∧ (l.take m).foldl more x ≤ 2147483647 := by
  have hl2 : (l.take m).length ≤ 3 := by rw [List.length_take]; omega
  have hB2 := hB.take m
  generalize l.take m = t at *
  match t, hl2, hB2 with
  | [], _, _ => simp only [List.foldl_nil]; omega
  | [a], _, h =>
    have ha := h a (by simp)
    simp only [List.foldl_cons, List.foldl_nil, more]; omega
  | [a, b], _, h =>
    have ha := h a (by simp)
    have hb := h b (by simp)
    simp only [List.foldl_cons, List.foldl_nil, more]; omega
  | [a, b, c], _, h =>
    have ha := h a (by simp)
    have hb := h b (by simp)
    have hc := h c (by simp)
    simp only [List.foldl_cons, List.foldl_nil, more]; omega
  | a :: b :: c :: d :: t, h, _ => simp at h
theorem spec_GetInt_eq {b : List Int} (hB : B b) (hl : b.length ≤ 1099511627776) {k : Nat} (hk : 40 ≤ k) : spec_GetInt.f k b = some (getInt b) := by
  unfold spec_GetInt.f getInt
  rw [spec_l1In_eq, Option.bind_some]
  by_cases h : 1 ≤ b.length ∧ b.length ≤ 4
  · rw [if_pos (by simp; omega), if_pos (by omega), if_pos h]
    obtain ⟨x, l, rfl⟩ : ∃ x l, b = x :: l := by
      cases b with
      | nil => simp at h
      | cons x l => exact ⟨x, l, rfl⟩
    have hx := hB x (by simp)
    have hBl : B l := fun y hy => hB y (List.mem_cons_of_mem _ hy)
    have hll : l.length ≤ 3 := by have := h.2; simp at this; omega
    obtain ⟨k, rfl⟩ : ∃ m, k = m + 1 := ⟨k - 1, by omega⟩
    have e0 : rd (x :: l) 0 = x := rd_cons_zero x l
    have key : spec_GetInt.l0 k (x :: l) (s8 x) 1 = some (if (putInt (l.foldl more (s8 x))).length = (x :: l).length then (l.foldl more (s8 x), true) else (0, false)) := by
      have := spec_GetInt_l0 (x :: l) hB h.2 l.length k 1 (s8 x) (by simp) (by omega) (by simp) (fun m hm => by
        simp only [List.drop_succ_cons, List.drop_zero]
        exact fold_small l hBl (s8 x) (by unfold s8; split <;> omega) hll m)
      simpa using this
    rw [e0, w64 (n := x) (by omega) (by omega)]
    unfold xVal
    simp only
    by_cases c : x > 127
    · rw [if_pos c, w64 (by omega) (by omega)]
      simp only [spec_GetInt.j0]
      have : s8 x = x - 256 := by unfold s8; rw [if_pos c]
      rw [← this]; exact key
    · rw [if_neg c]
      simp only [spec_GetInt.j0]
      have : s8 x = x := by unfold s8; rw [if_neg c]
      rw [this] at key ⊢; exact key
  · rw [if_neg (by simp; omega), if_neg h]
theorem i8_s8 {x : Int} (h0 : 0 ≤ x) (h1 : x ≤ 255) : IntKind.i8.wrap x = s8 x := by
  unfold s8
  simp only [IntKind.wrap, IntKind.bits, IntKind.signed, Bool.true_and]
  by_cases c : x > 127
  · rw [if_pos c, if_pos (by simp only [decide_eq_true_eq, ge_iff_le]; omega)]; omega
  · rw [if_neg c, if_neg (by simp only [decide_eq_true_eq, ge_iff_le]; omega)]; omega
theorem impl_GetInt_eq {b : List Int} (hB : B b) (hl : b.length ≤ 1099511627776) {k : Nat} (hk : 50 ≤ k) : impl_GetInt.f k b = some (getInt b) := by
  unfold impl_GetInt.f getInt
  rw [impl_in_eq, Option.bind_some]
  by_cases h : 1 ≤ b.length ∧ b.length ≤ 4
  · rw [if_pos (by simp; omega), if_pos (by omega), if_pos (by omega), if_pos h]
    obtain ⟨x, l, rfl⟩ : ∃ x l, b = x :: l := by
      cases b with
      | nil => simp at h
      | cons x l => exact ⟨x, l, rfl⟩
    have hx := hB x (by simp)
    have hBl : B l := fun y hy => hB y (List.mem_cons_of_mem _ hy)
    have hll : l.length ≤ 3 := by have := h.2; simp at this; omega
    rw [rd_cons_zero, i8_s8 hx.1 hx.2, w64 (by unfold s8; split <;> omega) (by unfold s8; split <;> omega)]
    have := impl_GetInt_l0 (x :: l) l hBl (by omega) l.length k 0 (s8 x) (by simp) (by omega) (by simp) (fun m hm => by
        simp only [List.drop_zero]
        exact fold_small l hBl (s8 x) (by unfold s8; split <;> omega) hll m)
    exact this
  · rw [if_neg (by simp; omega), if_neg h]
theorem spec_l4Num_eq {l : List Int} (hB : B l) (hl : l.length ≤ 1099511627776) {a : Int} (h0 : 0 ≤ a) (h1 : a ≤ l.length) (bad : Bool) {k : Nat} (hk : 50 ≤ k) : spec_l4Num.f k l a bad = some (xNum l a bad 2) := by
  obtain ⟨p1, p2, _⟩ := xPart_range hB h0 h1 bad 2
  unfold spec_l4Num.f xNum
  rw [spec_l4Part_eq hB hl ⟨by omega, by omega⟩, Option.bind_some, spec_GetInt_eq p1 (by omega) (by omega), Option.bind_some]
  cases (xPart l a bad 2).2.2 <;> simp
theorem impl_num_eq {l : List Int} (hB : B l) (hl : l.length ≤ 1099511627776) {a : Int} (h0 : 0 ≤ a) (h1 : a ≤ l.length) (bad : Bool) (tag : Int) {k : Nat} (hk : 50 ≤ k) : impl_parts_num.f k l a bad tag = some (xNum l a bad tag) := by
  obtain ⟨p1, p2, _⟩ := xPart_range hB h0 h1 bad tag
  unfold impl_parts_num.f xNum
  rw [impl_part_eq hB hl ⟨by omega, by omega⟩, Option.bind_some, impl_GetInt_eq p1 (by omega) (by omega), Option.bind_some]
  cases (xPart l a bad tag).2.2 <;> simp
theorem spec_VecOk_eq (r c h b p : Int) : spec_VecOk.f r c h b p = some (vecOk r c h b p) := by
  unfold spec_VecOk.f vecOk
  simp only [spec_l1In_eq, Option.bind_some, decide_eq_true_eq]
  by_cases h1 : 1 ≤ r ∧ r ≤ 99
  · rw [if_pos h1]
    by_cases h2 : 0 ≤ c ∧ c ≤ 100000
    · rw [if_pos h2]
      by_cases h3 : 0 ≤ h ∧ h ≤ 10
      · rw [if_pos h3]
        by_cases h4 : 1 ≤ b ∧ b ≤ 99
        · rw [if_pos h4]; congr 1; apply decide_eq_decide.2; omega
        · rw [if_neg h4]; congr 1; symm; apply decide_eq_false; omega
      · rw [if_neg h3]; congr 1; symm; apply decide_eq_false; omega
    · rw [if_neg h2]; congr 1; symm; apply decide_eq_false; omega
  · rw [if_neg h1]; congr 1; symm; apply decide_eq_false; omega
theorem impl_VecOk_eq (r c h b p : Int) : impl_VecOk.f r c h b p = some (vecOk r c h b p) := by
  unfold impl_VecOk.f vecOk
  simp only [impl_in_eq, Option.bind_some, decide_eq_true_eq]
  by_cases h1 : 1 ≤ r ∧ r ≤ 99
  · rw [if_pos h1]
    by_cases h2 : 0 ≤ c ∧ c ≤ 100000
    · rw [if_pos h2]
      by_cases h3 : 0 ≤ h ∧ h ≤ 10
      · rw [if_pos h3]
        by_cases h4 : 1 ≤ b ∧ b ≤ 99
        · rw [if_pos h4]; congr 1; apply decide_eq_decide.2; omega
        · rw [if_neg h4]; congr 1; symm; apply decide_eq_false; omega
      · rw [if_neg h3]; congr 1; symm; apply decide_eq_false; omega
    · rw [if_neg h2]; congr 1; symm; apply decide_eq_false; omega
  · rw [if_neg h1]; congr 1; symm; apply decide_eq_false; omega
theorem spec_GetVec_eq {l : List Int} (hB : B l) (hl : l.length ≤ 1099511627776) {k : Nat} (hk : 50 ≤ k) : spec_GetVec.f k l = some (getVec l) := by
  have r1 := xNum_range hB (a := 0) (by omega) (by omega) false 2
  unfold spec_GetVec.f getVec
  simp only [nextNum]
  rw [spec_l4Num_eq hB hl (by omega) (by omega) _ hk, Option.bind_some]
  generalize xNum l 0 false 2 = a at *
  have r2 := xNum_range hB r1.1 r1.2 a.2.2 2
  rw [spec_l4Num_eq hB hl r1.1 r1.2 _ hk, Option.bind_some]
  generalize xNum l a.2.1 a.2.2 2 = b at *
  have r3 := xNum_range hB r2.1 r2.2 b.2.2 2
  rw [spec_l4Num_eq hB hl r2.1 r2.2 _ hk, Option.bind_some]
  generalize xNum l b.2.1 b.2.2 2 = c at *
  have r4 := xNum_range hB r3.1 r3.2 c.2.2 2
  rw [spec_l4Num_eq hB hl r3.1 r3.2 _ hk, Option.bind_some]
  generalize xNum l c.2.1 c.2.2 2 = d at *
  rw [spec_l4Num_eq hB hl r4.1 r4.2 _ hk, Option.bind_some]
  generalize xNum l d.2.1 d.2.2 2 = e at *
  simp only [spec_VecOk_eq, Option.bind_some]
  generalize vecOk a.1 b.1 c.1 d.1 e.1 = v
  cases e.2.2 <;> cases v <;> by_cases h : e.2.1 = (l.length : Int) <;> first | (simp [h]; done) | (simp [h, beq_eq_false_iff_ne.2 h]; done)
theorem impl_GetVec_eq {l : List Int} (hB : B l) (hl : l.length ≤ 1099511627776) {k : Nat} (hk : 50 ≤ k) : impl_GetVec.f k l = some (getVec l) := by
  have r1 := xNum_range hB (a := 0) (by omega) (by omega) false 2
  unfold impl_GetVec.f getVec impl_parts_done.f
  simp only [nextNum]
  rw [impl_num_eq hB hl (by omega) (by omega) _ _ hk, Option.bind_some]
  generalize xNum l 0 false 2 = a at *
  have r2 := xNum_range hB r1.1 r1.2 a.2.2 2
  rw [impl_num_eq hB hl r1.1 r1.2 _ _ hk, Option.bind_some]
  generalize xNum l a.2.1 a.2.2 2 = b at *
  have r3 := xNum_range hB r2.1 r2.2 b.2.2 2
  rw [impl_num_eq hB hl r2.1 r2.2 _ _ hk, Option.bind_some]
  generalize xNum l b.2.1 b.2.2 2 = c at *
  have r4 := xNum_range hB r3.1 r3.2 c.2.2 2
  rw [impl_num_eq hB hl r3.1 r3.2 _ _ hk, Option.bind_some]
  generalize xNum l c.2.1 c.2.2 2 = d at *
  rw [impl_num_eq hB hl r4.1 r4.2 _ _ hk, Option.bind_some]
  generalize xNum l d.2.1 d.2.2 2 = e at *
  simp only [impl_VecOk_eq, Option.bind_some]
  generalize vecOk a.1 b.1 c.1 d.1 e.1 = v
  cases e.2.2 <;> cases v <;> by_cases h : e.2.1 = (l.length : Int) <;> first | (simp [h]; done) | (simp [h, beq_eq_false_iff_ne.2 h]; done)
theorem eqVec_self (a b c d e : Int) : laws_eqVec.f a b c d e a b c d e = some true := by
  unfold laws_eqVec.f
  simp
end Go.Proofs.Ytkcgghgkmgbphaa.EqFnExactGetVec
