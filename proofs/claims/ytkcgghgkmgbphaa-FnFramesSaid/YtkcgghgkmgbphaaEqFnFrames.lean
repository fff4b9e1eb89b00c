/- What the printed functions of FnFrames answer, said in plain words of lists and numbers. Conditions: sizes and ranges, as each lemma names them. -/
import Derived.Test.YtkcgghgkmgbphaaPFnFramesx14
import Derived.Test.YtkcgghgkmgbphaaBaseFnFrames
import Derived.Test.YtkcgghgkmgbphaaBytesFnFrames
import Derived.Test.YtkcgghgkmgbphaaFrameFnFrames
namespace Go.Proofs.Ytkcgghgkmgbphaa.EqFnFrames
open Go.RowKit Go.Proofs.Ytkcgghgkmgbphaa.PFnFrames Go.Proofs.YtkcgghgkmgbphaaW.PrintWords Go.Proofs.YtkcgghgkmgbphaaW.PrintLast Go.Proofs.Ytkcgghgkmgbphaa.Base
theorem spec_l1In_eq (a b c : Int) : spec_l1In.f a b c = some (decide (b ≤ a ∧ a ≤ c)) := by
  unfold spec_l1In.f
  by_cases h : a ≥ b
  · rw [if_pos h]; congr 1; simp; omega
  · rw [if_neg h]; congr 1; simp; omega
theorem impl_in_eq (a b c : Int) : impl_in.f a b c = some (decide (b ≤ a ∧ a ≤ c)) := by
  unfold impl_in.f
  by_cases h : a ≥ b
  · rw [if_pos h]; congr 1; simp; omega
  · rw [if_neg h]; congr 1; simp; omega
theorem spec_l1Clip_eq (n : Int) : spec_l1Clip.f n = some (clip n) := by
  unfold spec_l1Clip.f clip
  repeat' split
  all_goals first | rfl | omega
theorem spec_PutInt_eq (n : Int) {k : Nat} (hk : 10 ≤ k) : spec_PutInt.f k n = some (putInt n) := by
  unfold spec_PutInt.f
  rw [spec_l1Clip_eq, Option.bind_some]
  unfold putInt
  obtain ⟨h0, h1⟩ := clip_range n
  generalize clip n = c at *
  obtain ⟨k, rfl⟩ : ∃ m, k = m + 5 := ⟨k - 5, by omega⟩
  have step : ∀ (k : Nat) (x : Int) (l : List Int), ¬ (-128 ≤ x ∧ x ≤ 127) → l.length < 1000 → spec_PutInt.l0 (k + 1) x l = spec_PutInt.l0 k (x / 256) ((x / 256) % 256 :: l) := by
    intro k x l hx hl
    simp only [spec_PutInt.l0, Option.bind_some, List.length_cons, List.length_nil, List.cons_append, List.nil_append]
    by_cases c : x < -128
    · rw [if_pos c, if_pos (by omega)]
    · rw [if_neg c, if_pos (by omega), if_pos (by omega)]
  have stop : ∀ (k : Nat) (x : Int) (l : List Int), (-128 ≤ x ∧ x ≤ 127) → spec_PutInt.l0 (k + 1) x l = some l := by
    intro k x l hx
    simp only [spec_PutInt.l0]
    rw [if_neg (by omega), if_neg (by omega)]
  unfold intBytes
  by_cases c1 : -128 ≤ c ∧ c ≤ 127
  · rw [if_pos c1]; exact stop _ _ _ c1
  · rw [if_neg c1, step _ _ _ c1 (by simp)]
    by_cases c2 : -32768 ≤ c ∧ c ≤ 32767
    · rw [if_pos c2]; exact stop _ _ _ (by omega)
    · rw [if_neg c2, step _ _ _ (by omega) (by simp)]
      by_cases c3 : -8388608 ≤ c ∧ c ≤ 8388607
      · rw [if_pos c3, stop _ _ _ (by omega), show c / 256 / 256 = c / 65536 by omega]
      · rw [if_neg c3, step _ _ _ (by omega) (by simp), stop _ _ _ (by omega), show c / 256 / 256 = c / 65536 by omega, show c / 65536 / 256 = c / 16777216 by omega]
theorem impl_PutInt_eq (n : Int) {k : Nat} (hk : 20 ≤ k) : impl_PutInt.f k n = some (putInt n) := by
  unfold impl_PutInt.f
  rw [mxmn]
  unfold putInt
  obtain ⟨h0, h1⟩ := clip_range n
  generalize clip n = c at *
  obtain ⟨k, rfl⟩ : ∃ m, k = m + 12 := ⟨k - 12, by omega⟩
  have nx : ∀ (k : Nat) (j : Int) (lo hi : Int), j < 4 → 0 ≤ wrap64 (wrap64 (8 * j) - 1) → shl .i64 (-1) (wrap64 (wrap64 (8 * j) - 1)) = lo → wrap64 (shl .i64 1 (wrap64 (wrap64 (8 * j) - 1)) - 1) = hi →
      impl_PutInt.l0 (k + 1) c j = if lo ≤ c ∧ c ≤ hi then impl_PutInt.j1 k c j else impl_PutInt.l0 k c (wrap64 (j + 1)) := by
    intro k j lo hi hj hs e1 e2
    simp only [impl_PutInt.l0]
    rw [if_pos hj, if_pos hs, e1, e2, impl_in_eq, Option.bind_some]
    by_cases h : lo ≤ c ∧ c ≤ hi
    · rw [if_pos (by simpa using h), if_pos h]
    · rw [if_neg (by simpa using h), if_neg h]
  have out : ∀ (k : Nat) (l : List Int) (j : Int) (v : Int), 0 ≤ j → j ≤ 3 → l.length < 1000 → shr .i64 c (wrap64 (8 * j)) = v → impl_PutInt.l1 (k + 1) c l j = impl_PutInt.l1 k c (l ++ [v % 256]) (wrap64 (j - 1)) := by
    intro k l j v hj hj3 hl hv
    simp only [impl_PutInt.l1]
    rw [if_pos hj, if_pos (by rw [w64 (by omega) (by omega)]; omega), if_pos (by omega), hv]
  have fin : ∀ (k : Nat) (l : List Int), impl_PutInt.l1 (k + 1) c l (-1) = some l := by
    intro k l
    simp only [impl_PutInt.l1]
    rw [if_neg (by omega)]
  have s0 : shr .i64 c (wrap64 (8 * 0)) = c := by unfold shr; rw [show (2 : Int) ^ min (wrap64 (8 * 0)).toNat IntKind.i64.bits = 1 by decide +kernel, Int.ediv_one]
  have s1 : shr .i64 c (wrap64 (8 * 1)) = c / 256 := by unfold shr; rw [show (2 : Int) ^ min (wrap64 (8 * 1)).toNat IntKind.i64.bits = 256 by decide +kernel]
  have s2 : shr .i64 c (wrap64 (8 * 2)) = c / 65536 := by unfold shr; rw [show (2 : Int) ^ min (wrap64 (8 * 2)).toNat IntKind.i64.bits = 65536 by decide +kernel]
  have s3 : shr .i64 c (wrap64 (8 * 3)) = c / 16777216 := by unfold shr; rw [show (2 : Int) ^ min (wrap64 (8 * 3)).toNat IntKind.i64.bits = 16777216 by decide +kernel]
  have w1 : wrap64 (1 - 1) = 0 := by decide +kernel
  have w2 : wrap64 (2 - 1) = 1 := by decide +kernel
  have w3 : wrap64 (3 - 1) = 2 := by decide +kernel
  have w4 : wrap64 (4 - 1) = 3 := by decide +kernel
  have w0 : wrap64 (0 - 1) = -1 := by decide +kernel
  unfold intBytes
  rw [nx (k + 11) 1 (-128) 127 (by omega) (by decide +kernel) (by decide +kernel) (by decide +kernel)]
  by_cases c1 : -128 ≤ c ∧ c ≤ 127
  · rw [if_pos c1, if_pos c1]
    simp only [impl_PutInt.j1]
    rw [w1, out _ _ 0 c (by omega) (by omega) (by simp) s0, w0, fin]
    rfl
  · rw [if_neg c1, if_neg c1, show wrap64 (1 + 1) = 2 by decide +kernel, nx _ 2 (-32768) 32767 (by omega) (by decide +kernel) (by decide +kernel) (by decide +kernel)]
    by_cases c2 : -32768 ≤ c ∧ c ≤ 32767
    · rw [if_pos c2, if_pos c2]
      simp only [impl_PutInt.j1]
      rw [w2, out _ _ 1 _ (by omega) (by omega) (by simp) s1, w1, out _ _ 0 c (by omega) (by omega) (by simp) s0, w0, fin]
      rfl
    · rw [if_neg c2, if_neg c2, show wrap64 (2 + 1) = 3 by decide +kernel, nx _ 3 (-8388608) 8388607 (by omega) (by decide +kernel) (by decide +kernel) (by decide +kernel)]
      by_cases c3 : -8388608 ≤ c ∧ c ≤ 8388607
      · rw [if_pos c3, if_pos c3]
        simp only [impl_PutInt.j1]
        rw [w3, out _ _ 2 _ (by omega) (by omega) (by simp) s2, w2, out _ _ 1 _ (by omega) (by omega) (by simp) s1, w1, out _ _ 0 c (by omega) (by omega) (by simp) s0, w0, fin]
        rfl
      · rw [if_neg c3, if_neg c3, show wrap64 (3 + 1) = 4 by decide +kernel]
        have : impl_PutInt.l0 (k + 8 + 1) c 4 = impl_PutInt.j1 (k + 8) c 4 := by simp only [impl_PutInt.l0]; rw [if_neg (by omega)]
        rw [this]
        simp only [impl_PutInt.j1]
        rw [w4, out _ _ 3 _ (by omega) (by omega) (by simp) s3, w3, out _ _ 2 _ (by omega) (by omega) (by simp) s2, w2, out _ _ 1 _ (by omega) (by omega) (by simp) s1, w1, out _ _ 0 c (by omega) (by omega) (by simp) s0, w0, fin]
        rfl
theorem spec_GetTlv_eq {l : List Int} (hB : B l) (hl : l.length ≤ 1099511627776) {a : Int} (ha : -9223372036854775808 ≤ a ∧ a ≤ 9223372036854775807) : spec_GetTlv.f l a = some (tlv4 l a) := by
  have b1 := hB.at_ (a + 1)
  have b2 := hB.at_ (a + 2)
  have b0 := hB.at_ a
  unfold tlv4 tlvAt
  by_cases h : 0 ≤ a ∧ a + 1 < l.length
  · rw [if_pos h]
    obtain ⟨h0, h1⟩ := h
    have w1 : wrap64 (a + 1) = a + 1 := w64 (by omega) (by omega)
    have w2 : wrap64 (a + 2) = a + 2 := w64 (by omega) (by omega)
    have w3 : wrap64 (a + 2 + 1) = a + 3 := by rw [w64 (by omega) (by omega)]; omega
    have v0 : wrap64 (rd l a) = rd l a := w64 (by omega) (by omega)
    have v1 : wrap64 (rd l (a + 1)) = rd l (a + 1) := w64 (by omega) (by omega)
    have v2 : wrap64 (rd l (a + 2)) = rd l (a + 2) := w64 (by omega) (by omega)
    have s2 : wrap64 ((l.length : Int) - (a + 2)) = l.length - (a + 2) := w64 (by omega) (by omega)
    have s3 : wrap64 ((l.length : Int) - (a + 3)) = l.length - (a + 3) := w64 (by omega) (by omega)
    have t2 : wrap64 (a + 2 + rd l (a + 1)) = a + 2 + rd l (a + 1) := w64 (by omega) (by omega)
    have t3 : wrap64 (a + 3 + rd l (a + 2)) = a + 3 + rd l (a + 2) := w64 (by omega) (by omega)
    unfold spec_GetTlv.f
    simp only [w1, w2, w3, v0, v1, v2, s2, s3, t2, t3, Option.bind_some, List.nil_append, List.length_nil, Nat.zero_add]
    rw [if_neg (by omega), if_neg (by omega), if_neg (by omega), if_pos (by omega), if_pos (by omega)]
    by_cases c : rd l (a + 1) < 128
    · rw [if_pos c, if_neg (by omega), if_neg (by omega)]
      by_cases c2 : a + 2 + rd l (a + 1) ≤ l.length
      · rw [if_neg (by omega), if_pos (by omega), if_pos (by omega), if_pos (by omega), if_pos (by omega), if_pos (by omega), if_pos (by rw [List.length_drop, List.length_take]; omega), if_pos c2]
      · rw [if_pos (by omega), if_neg c2]
    · rw [if_neg c, if_pos (by omega)]
      by_cases d : rd l (a + 1) = 129
      · rw [if_pos d]
        by_cases d2 : a + 2 ≥ (l.length : Int)
        · rw [if_pos d2, if_neg (by omega)]
        · rw [if_neg d2, if_pos (by omega), if_pos (by omega)]
          by_cases d3 : rd l (a + 2) < 128
          · rw [if_pos d3, if_neg (by omega)]
          · rw [if_neg d3]
            by_cases d4 : rd l (a + 2) > 250
            · rw [if_pos d4, if_neg (by omega)]
            · rw [if_neg d4]
              by_cases d5 : rd l (a + 2) > l.length - (a + 3)
              · rw [if_pos d5, if_neg (by omega)]
              · rw [if_neg d5, if_pos (by omega), if_pos (by omega), if_pos (by omega), if_pos (by omega), if_pos (by omega), if_pos (by rw [List.length_drop, List.length_take]; omega), if_pos (by omega)]
      · rw [if_neg d, if_neg (by omega)]
  · rw [if_neg h]
    unfold spec_GetTlv.f
    by_cases h0 : a < 0
    · rw [if_pos h0]
    · rw [if_neg h0]
      by_cases h1 : a ≥ (l.length : Int)
      · rw [if_pos h1]
      · rw [if_neg h1, if_pos (by rw [w64 (by omega) (by omega)]; omega)]
theorem impl_copyBytes_eq {l : List Int} (hl : l.length ≤ 1099511627776) : impl_copyBytes.f l = some l := by
  unfold impl_copyBytes.f
  rw [if_pos (by simp only [List.length_nil]; omega)]
  rfl
theorem impl_GetTlv_eq {l : List Int} (hB : B l) (hl : l.length ≤ 1099511627776) {a : Int} (ha : -9223372036854775808 ≤ a ∧ a ≤ 9223372036854775807) : impl_GetTlv.f l a = some (tlv4 l a) := by
  have b1 := hB.at_ (a + 1)
  have b2 := hB.at_ (a + 2)
  have b0 := hB.at_ a
  have z2 : wrap64 ((l.length : Int) - 2) = l.length - 2 := w64 (by omega) (by omega)
  unfold tlv4 tlvAt
  by_cases h : 0 ≤ a ∧ a + 1 < l.length
  · rw [if_pos h]
    obtain ⟨h0, h1⟩ := h
    have w1 : wrap64 (a + 1) = a + 1 := w64 (by omega) (by omega)
    have w2 : wrap64 (a + 2) = a + 2 := w64 (by omega) (by omega)
    have w3 : wrap64 (a + 2 + 1) = a + 3 := by rw [w64 (by omega) (by omega)]; omega
    have v0 : wrap64 (rd l a) = rd l a := w64 (by omega) (by omega)
    have v1 : wrap64 (rd l (a + 1)) = rd l (a + 1) := w64 (by omega) (by omega)
    have v2 : wrap64 (rd l (a + 2)) = rd l (a + 2) := w64 (by omega) (by omega)
    have s2 : wrap64 ((l.length : Int) - (a + 2)) = l.length - (a + 2) := w64 (by omega) (by omega)
    have s3 : wrap64 ((l.length : Int) - (a + 3)) = l.length - (a + 3) := w64 (by omega) (by omega)
    have t2 : wrap64 (a + 2 + rd l (a + 1)) = a + 2 + rd l (a + 1) := w64 (by omega) (by omega)
    have t3 : wrap64 (a + 3 + rd l (a + 2)) = a + 3 + rd l (a + 2) := w64 (by omega) (by omega)
    unfold impl_GetTlv.f
    simp only [z2, w1, w2, w3, v0, v1, v2, s2, s3, t2, t3]
    rw [if_neg (by omega), if_neg (by omega), if_pos (by omega), if_pos (by omega)]
    by_cases c : rd l (a + 1) < 128
    · rw [if_pos c, if_neg (by omega), if_neg (by omega)]
      by_cases c2 : a + 2 + rd l (a + 1) ≤ l.length
      · rw [if_neg (by omega), if_pos (by omega), if_pos (by omega), if_pos (by omega), if_pos (by omega), if_pos (by omega), if_pos c2, impl_copyBytes_eq (by rw [List.length_drop, List.length_take]; omega), Option.bind_some]
      · rw [if_pos (by omega), if_neg c2]
    · rw [if_neg c, if_pos (by omega)]
      by_cases d : rd l (a + 1) = 129
      · rw [if_pos d]
        by_cases d2 : a + 2 ≥ (l.length : Int)
        · rw [if_pos d2, if_neg (by omega)]
        · rw [if_neg d2, if_pos (by omega), if_pos (by omega)]
          by_cases d3 : rd l (a + 2) < 128
          · rw [if_pos d3, if_neg (by omega)]
          · rw [if_neg d3]
            by_cases d4 : rd l (a + 2) > 250
            · rw [if_pos d4, if_neg (by omega)]
            · rw [if_neg d4]
              by_cases d5 : rd l (a + 2) > l.length - (a + 3)
              · rw [if_pos d5, if_neg (by omega)]
              · rw [if_neg d5, if_pos (by omega), if_pos (by omega), if_pos (by omega), if_pos (by omega), if_pos (by omega), impl_copyBytes_eq (by rw [List.length_drop, List.length_take]; omega), Option.bind_some, if_pos (by omega)]
      · rw [if_neg d, if_neg (by omega)]
  · rw [if_neg h]
    unfold impl_GetTlv.f
    rw [z2]
    by_cases h0 : a < 0
    · rw [if_pos h0]
    · rw [if_neg h0, if_pos (by omega)]
theorem spec_l4Part_eq {l : List Int} (hB : B l) (hl : l.length ≤ 1099511627776) {a : Int} (ha : -9223372036854775808 ≤ a ∧ a ≤ 9223372036854775807) (bad : Bool) (tag : Int) : spec_l4Part.f l a bad tag = some (xPart l a bad tag) := by
  unfold spec_l4Part.f
  rw [spec_GetTlv_eq hB hl ha, Option.bind_some]
  unfold xPart tlv4
  cases bad with
  | true => simp
  | false =>
    cases tlvAt l a with
    | none => simp
    | some x => obtain ⟨t, b, n⟩ := x; by_cases h : t = tag <;> simp [h]
theorem impl_part_eq {l : List Int} (hB : B l) (hl : l.length ≤ 1099511627776) {a : Int} (ha : -9223372036854775808 ≤ a ∧ a ≤ 9223372036854775807) (bad : Bool) (tag : Int) : impl_parts_part.f l a bad tag = some (xPart l a bad tag) := by
  unfold impl_parts_part.f
  rw [impl_GetTlv_eq hB hl ha, Option.bind_some]
  unfold xPart tlv4
  cases bad with
  | true => simp
  | false =>
    cases tlvAt l a with
    | none => simp
    | some x => obtain ⟨t, b, n⟩ := x; by_cases h : t = tag <;> simp [h]
theorem spec_GetInt_l0 (b : List Int) (hB : B b) (hl : b.length ≤ 4) (d : Nat) : ∀ (k i : Nat) (n : Int), b.length - i = d → d + 20 ≤ k → i ≤ b.length → (∀ m : Nat, m ≤ d → -2147483648 ≤ ((b.drop i).take m).foldl more n ∧ ((b.drop i).take m).foldl more n ≤ 2147483647) →
    spec_GetInt.l0 k b n (i : Int) = some (if (putInt ((b.drop i).foldl more n)).length = b.length then ((b.drop i).foldl more n, true) else (0, false)) := by
  induction d with
  | zero =>
    intro k i n hd hk hi hr
    obtain ⟨k, rfl⟩ : ∃ m, k = m + 1 := ⟨k - 1, by omega⟩
    simp only [spec_GetInt.l0]
    rw [if_neg (by omega), spec_PutInt_eq _ (by omega), Option.bind_some, List.drop_of_length_le (by omega)]
    by_cases h : (putInt n).length = b.length
    · rw [if_pos (by omega)]; exact congrArg some (if_pos h).symm
    · rw [if_neg (by omega)]; exact congrArg some (if_neg h).symm
  | succ d ih =>
    intro k i n hd hk hi hr
    obtain ⟨k, rfl⟩ : ∃ m, k = m + 1 := ⟨k - 1, by omega⟩
    have hlt : i < b.length := by omega
    have hx := hB.at_ (i : Int)
    simp only [spec_GetInt.l0]
    have e : b.drop i = rd b (i : Int) :: b.drop (i + 1) := by
      rw [List.drop_eq_getElem_cons hlt]
      congr 1
      rw [rd_nat, List.getD_eq_getElem?_getD, List.getElem?_eq_getElem hlt]; rfl
    have h1 := hr 1 (by omega)
    rw [e] at h1
    simp only [List.take_succ_cons, List.take_zero, List.foldl_cons, List.foldl_nil, more] at h1
    rw [if_pos (by omega), if_pos (by omega), or_bytes _ _ hx.1 hx.2, w64 (n := (i : Int) + 1) (by omega) (by omega), w64 (by omega) (by omega), e, List.foldl_cons]
    have := ih k (i + 1) (n * 256 + rd b (i : Int)) (by omega) (by omega) (by omega) (fun m hm => by
      have := hr (m + 1) (by omega)
      rw [e, List.take_succ_cons, List.foldl_cons] at this
      exact this)
    exact this
theorem impl_GetInt_l0 (b c : List Int) (hB : B c) (hl : c.length ≤ 4) (d : Nat) : ∀ (k i : Nat) (n : Int), c.length - i = d → d + 30 ≤ k → i ≤ c.length → (∀ m : Nat, m ≤ d → -2147483648 ≤ ((c.drop i).take m).foldl more n ∧ ((c.drop i).take m).foldl more n ≤ 2147483647) →
    impl_GetInt.l0 k b n c (c.length : Int) (i : Int) = some (if (putInt ((c.drop i).foldl more n)).length = b.length then ((c.drop i).foldl more n, true) else (0, false)) := by
  induction d with
  | zero =>
    intro k i n hd hk hi hr
    obtain ⟨k, rfl⟩ : ∃ m, k = m + 1 := ⟨k - 1, by omega⟩
    simp only [impl_GetInt.l0]
    rw [if_neg (by omega), impl_PutInt_eq _ (by omega), Option.bind_some, List.drop_of_length_le (by omega)]
    by_cases h : (putInt n).length = b.length
    · rw [if_pos (by omega)]; exact congrArg some (if_pos h).symm
    · rw [if_neg (by omega)]; exact congrArg some (if_neg h).symm
  | succ d ih =>
    intro k i n hd hk hi hr
    obtain ⟨k, rfl⟩ : ∃ m, k = m + 1 := ⟨k - 1, by omega⟩
    have hlt : i < c.length := by omega
    have hx := hB.at_ (i : Int)
    simp only [impl_GetInt.l0]
    have e : c.drop i = rd c (i : Int) :: c.drop (i + 1) := by
      rw [List.drop_eq_getElem_cons hlt]
      congr 1
      rw [rd_nat, List.getD_eq_getElem?_getD, List.getElem?_eq_getElem hlt]; rfl
    have h1 := hr 1 (by omega)
    rw [e] at h1
    simp only [List.take_succ_cons, List.take_zero, List.foldl_cons, List.foldl_nil, more] at h1
    rw [if_pos (by omega), if_pos (by omega), if_pos (by omega), or_bytes _ _ hx.1 hx.2, w64 (n := (i : Int) + 1) (by omega) (by omega), w64 (by omega) (by omega), e, List.foldl_cons]
    have := ih k (i + 1) (n * 256 + rd c (i : Int)) (by omega) (by omega) (by omega) (fun m hm => by
      have := hr (m + 1) (by omega)
      rw [e, List.take_succ_cons, List.foldl_cons] at this
      exact this)
    exact this
/-- Behind some intBytes a number is still small. -/
theorem fold_small (l : List Int) (hB : B l) (x : Int) (hx : -128 ≤ x ∧ x ≤ 127) (hl : l.length ≤ 3) (m : Nat) : -2147483648 ≤ (l.take m).foldl more x ∧ (l.take m).foldl more x ≤ 2147483647 := by
  have hl2 : (l.take m).length ≤ 3 := by rw [List.length_take]; omega
  have hB2 := hB.take m
  generalize l.take m = t at *
  match t, hl2, hB2 with
  | [], _, _ => simp only [List.foldl_nil]; omega
  | [a], _, h =>
    have ha := h a (by simp)
    simp only [List.foldl_cons, List.foldl_nil, more]; omega
  | [a, b], _, h =>
    have ha := h a (by simp)
    have hb := h b (by simp)
    simp only [List.foldl_cons, List.foldl_nil, more]; omega
  | [a, b, c], _, h =>
    have ha := h a (by simp)
    have hb := h b (by simp)
    have hc := h c (by simp)
    simp only [List.foldl_cons, List.foldl_nil, more]; omega
  | a :: b :: c :: d :: t, h, _ => simp at h
theorem spec_GetInt_eq {b : List Int} (hB : B b) (hl : b.length ≤ 1099511627776) {k : Nat} (hk : 40 ≤ k) : spec_GetInt.f k b = some (getInt b) := by
  unfold spec_GetInt.f getInt
  rw [spec_l1In_eq, Option.bind_some]
  by_cases h : 1 ≤ b.length ∧ b.length ≤ 4
  · rw [if_pos (by simp; omega), if_pos (by omega), if_pos h]
    obtain ⟨x, l, rfl⟩ : ∃ x l, b = x :: l := by
      cases b with
      | nil => simp at h
      | cons x l => exact ⟨x, l, rfl⟩
    have hx := hB x (by simp)
    have hBl : B l := fun y hy => hB y (List.mem_cons_of_mem _ hy)
    have hll : l.length ≤ 3 := by have := h.2; simp at this; omega
    obtain ⟨k, rfl⟩ : ∃ m, k = m + 1 := ⟨k - 1, by omega⟩
    have e0 : rd (x :: l) 0 = x := rd_cons_zero x l
    have key : spec_GetInt.l0 k (x :: l) (s8 x) 1 = some (if (putInt (l.foldl more (s8 x))).length = (x :: l).length then (l.foldl more (s8 x), true) else (0, false)) := by
      have := spec_GetInt_l0 (x :: l) hB h.2 l.length k 1 (s8 x) (by simp) (by omega) (by simp) (fun m hm => by
        simp only [List.drop_succ_cons, List.drop_zero]
        exact fold_small l hBl (s8 x) (by unfold s8; split <;> omega) hll m)
      simpa using this
    rw [e0, w64 (n := x) (by omega) (by omega)]
    unfold xVal
    simp only
    by_cases c : x > 127
    · rw [if_pos c, w64 (by omega) (by omega)]
      simp only [spec_GetInt.j0]
      have : s8 x = x - 256 := by unfold s8; rw [if_pos c]
      rw [← this]; exact key
    · rw [if_neg c]
      simp only [spec_GetInt.j0]
      have : s8 x = x := by unfold s8; rw [if_neg c]
      rw [this] at key ⊢; exact key
  · rw [if_neg (by simp; omega), if_neg h]
theorem i8_s8 {x : Int} (h0 : 0 ≤ x) (h1 : x ≤ 255) : IntKind.i8.wrap x = s8 x := by
  unfold s8
  simp only [IntKind.wrap, IntKind.bits, IntKind.signed, Bool.true_and]
  by_cases c : x > 127
  · rw [if_pos c, if_pos (by simp only [decide_eq_true_eq, ge_iff_le]; omega)]; omega
  · rw [if_neg c, if_neg (by simp only [decide_eq_true_eq, ge_iff_le]; omega)]; omega
theorem impl_GetInt_eq {b : List Int} (hB : B b) (hl : b.length ≤ 1099511627776) {k : Nat} (hk : 50 ≤ k) : impl_GetInt.f k b = some (getInt b) := by
  unfold impl_GetInt.f getInt
  rw [impl_in_eq, Option.bind_some]
  by_cases h : 1 ≤ b.length ∧ b.length ≤ 4
  · rw [if_pos (by simp; omega), if_pos (by omega), if_pos (by omega), if_pos h]
    obtain ⟨x, l, rfl⟩ : ∃ x l, b = x :: l := by
      cases b with
      | nil => simp at h
      | cons x l => exact ⟨x, l, rfl⟩
    have hx := hB x (by simp)
    have hBl : B l := fun y hy => hB y (List.mem_cons_of_mem _ hy)
    have hll : l.length ≤ 3 := by have := h.2; simp at this; omega
    rw [rd_cons_zero, i8_s8 hx.1 hx.2, w64 (by unfold s8; split <;> omega) (by unfold s8; split <;> omega)]
    have := impl_GetInt_l0 (x :: l) l hBl (by omega) l.length k 0 (s8 x) (by simp) (by omega) (by simp) (fun m hm => by
        simp only [List.drop_zero]
        exact fold_small l hBl (s8 x) (by unfold s8; split <;> omega) hll m)
    exact this
  · rw [if_neg (by simp; omega), if_neg h]
theorem spec_l6Num_eq {l : List Int} (hB : B l) (hl : l.length ≤ 1099511627776) {a : Int} (h0 : 0 ≤ a) (h1 : a ≤ l.length) (bad : Bool) (tag : Int) {k : Nat} (hk : 50 ≤ k) : spec_l6Num.f k l a bad tag = some (xNum l a bad tag) := by
  obtain ⟨p1, p2, _⟩ := xPart_range hB h0 h1 bad tag
  unfold spec_l6Num.f xNum
  rw [spec_l4Part_eq hB hl ⟨by omega, by omega⟩, Option.bind_some, spec_GetInt_eq p1 (by omega) (by omega), Option.bind_some]
  cases (xPart l a bad tag).2.2 <;> simp
theorem impl_num_eq {l : List Int} (hB : B l) (hl : l.length ≤ 1099511627776) {a : Int} (h0 : 0 ≤ a) (h1 : a ≤ l.length) (bad : Bool) (tag : Int) {k : Nat} (hk : 50 ≤ k) : impl_parts_num.f k l a bad tag = some (xNum l a bad tag) := by
  obtain ⟨p1, p2, _⟩ := xPart_range hB h0 h1 bad tag
  unfold impl_parts_num.f xNum
  rw [impl_part_eq hB hl ⟨by omega, by omega⟩, Option.bind_some, impl_GetInt_eq p1 (by omega) (by omega), Option.bind_some]
  cases (xPart l a bad tag).2.2 <;> simp
theorem spec_FrameOk_eq (d s t : Int) (b : List Int) : spec_FrameOk.f d s t b = some (frameOk d s t b) := by
  unfold spec_FrameOk.f frameOk
  simp only [spec_l1In_eq, Option.bind_some, decide_eq_true_eq]
  by_cases h1 : 0 ≤ d ∧ d ≤ 9999
  · rw [if_pos h1]
    by_cases h2 : 1 ≤ s ∧ s ≤ 9999
    · rw [if_pos h2]
      by_cases h3 : 0 ≤ t ∧ t ≤ 99
      · rw [if_pos h3]; congr 1; apply decide_eq_decide.2; omega
      · rw [if_neg h3]; congr 1; symm; apply decide_eq_false; omega
    · rw [if_neg h2]; congr 1; symm; apply decide_eq_false; omega
  · rw [if_neg h1]; congr 1; symm; apply decide_eq_false; omega
theorem impl_FrameOk_eq (d s t : Int) (b : List Int) : impl_FrameOk.f d s t b = some (frameOk d s t b) := by
  unfold impl_FrameOk.f frameOk
  simp only [impl_in_eq, Option.bind_some, decide_eq_true_eq]
  by_cases h1 : 0 ≤ d ∧ d ≤ 9999
  · rw [if_pos h1]
    by_cases h2 : 1 ≤ s ∧ s ≤ 9999
    · rw [if_pos h2]
      by_cases h3 : 0 ≤ t ∧ t ≤ 99
      · rw [if_pos h3]; congr 1; apply decide_eq_decide.2; omega
      · rw [if_neg h3]; congr 1; symm; apply decide_eq_false; omega
    · rw [if_neg h2]; congr 1; symm; apply decide_eq_false; omega
  · rw [if_neg h1]; congr 1; symm; apply decide_eq_false; omega
theorem impl_tlv_eq (t : Int) (b : List Int) (hb : b.length ≤ 1099511627776) {k : Nat} (hk : 1 ≤ k) : impl_tlv.f k t b = some (if 0 ≤ t ∧ t ≤ 255 ∧ b.length ≤ 250 then (tlv t b, true) else ([], false)) := by
  obtain ⟨k, rfl⟩ : ∃ m, k = m + 1 := ⟨k - 1, by omega⟩
  unfold impl_tlv.f
  rw [impl_in_eq, Option.bind_some]
  by_cases h1 : 0 ≤ t ∧ t ≤ 255
  · rw [if_pos (by simpa using h1)]
    simp only [impl_tlv.j0, Option.bind_some, List.length_cons, List.length_nil, List.length_append]
    by_cases h2 : (b.length : Int) > 250
    · rw [if_pos (by simpa using h2), if_neg (by omega)]
    · rw [if_neg (by simpa using h2), if_pos (show 0 ≤ t ∧ t ≤ 255 ∧ b.length ≤ 250 by omega)]
      unfold tlv
      by_cases h3 : (b.length : Int) ≥ 128
      · rw [if_pos h3, if_pos (by omega), if_pos (by omega), if_pos (by omega), if_pos (by omega), show (b.length : Int) % 256 = b.length by omega]
        rfl
      · rw [if_neg h3, if_pos (by omega), if_pos (by omega), if_neg (by omega), show (b.length : Int) % 256 = b.length by omega]
        rfl
  · rw [if_neg (by simp; omega), if_neg (by omega)]
    simp only [impl_tlv.j0]
    rfl

theorem impl_copyBytes_eq' {l : List Int} (hl : l.length ≤ 1099511627776) : impl_copyBytes.f l = some l := by
  unfold impl_copyBytes.f
  rw [if_pos (by simp only [List.length_nil]; omega)]
  rfl
theorem impl_PutTlv_eq {p : List Int} (t : Int) {b : List Int} (hp : p.length ≤ 1099511627776) (hb : b.length ≤ 1099511627776) {k : Nat} (hk : 1 ≤ k) : impl_PutTlv.f k p t b = some (putTlv p t b) := by
  unfold impl_PutTlv.f putTlv
  rw [impl_tlv_eq t b hb hk, Option.bind_some, impl_copyBytes_eq' hp, Option.bind_some]
  by_cases h : 0 ≤ t ∧ t ≤ 255 ∧ b.length ≤ 250
  · rw [if_pos h, if_pos h]
    have := tlv_len t b
    rw [if_pos (by simp only; split at this <;> omega)]
  · rw [if_neg h, if_neg h]
    rw [if_pos (by simp only [List.length_nil]; omega), List.append_nil]
theorem impl_addNum_eq {p : List Int} (t n : Int) (hp : p.length ≤ 1099511627776) {k : Nat} (hk : 20 ≤ k) : impl_addNum.f k p t n = some (putTlv p t (putInt n)) := by
  unfold impl_addNum.f
  rw [impl_PutInt_eq n hk, Option.bind_some, impl_PutTlv_eq t hp (by have := putInt_len n; omega) (by omega)]
  rfl
theorem impl_PutFrame_eq (d s t : Int) {b : List Int} (hb : b.length ≤ 1099511627776) {k : Nat} (hk : 20 ≤ k) : impl_PutFrame.f k d s t b = some (putFrame d s t b) := by
  unfold impl_PutFrame.f putFrame
  rw [impl_FrameOk_eq, Option.bind_some]
  cases h : frameOk d s t b with
  | false => rfl
  | true =>
    have hok := h
    simp only [frameOk, decide_eq_true_eq] at hok
    have l1 := putInt_len d
    have l2 := putInt_len s
    have l3 := putInt_len t
    have t1 := putInt_tlv_len 1 d
    have t2 := putInt_tlv_len 1 s
    have t3 := putInt_tlv_len 2 t
    rw [if_pos rfl, impl_addNum_eq _ _ (by simp) hk, Option.bind_some]
    have e1 : putTlv [] 1 (putInt d) = tlv 1 (putInt d) := by unfold putTlv; rw [if_pos (by omega)]; rfl
    rw [e1, impl_addNum_eq _ _ (by omega) hk, Option.bind_some]
    have e2 : putTlv (tlv 1 (putInt d)) 1 (putInt s) = tlv 1 (putInt d) ++ tlv 1 (putInt s) := by unfold putTlv; rw [if_pos (by omega)]
    rw [e2, cond_true]
    unfold frameBytes
    by_cases h0 : t = 0
    · rw [if_pos h0, if_pos h0, impl_PutTlv_eq _ (by rw [List.length_append]; omega) hb (by omega), Option.bind_some]
      unfold putTlv
      rw [if_pos (by omega)]
      simp
    · rw [if_neg h0, if_neg h0, impl_addNum_eq _ _ (by rw [List.length_append]; omega) hk, Option.bind_some]
      have e3 : putTlv (tlv 1 (putInt d) ++ tlv 1 (putInt s)) 2 (putInt t) = tlv 1 (putInt d) ++ tlv 1 (putInt s) ++ tlv 2 (putInt t) := by unfold putTlv; rw [if_pos (by omega)]
      rw [e3, impl_PutTlv_eq _ (by rw [List.length_append, List.length_append]; omega) hb (by omega), Option.bind_some]
      unfold putTlv
      rw [if_pos (by omega)]
      simp
theorem spec_GetFrame_eq {l : List Int} (hB : B l) (hl : l.length ≤ 1099511627776) {k : Nat} (hk : 60 ≤ k) : spec_GetFrame.f k l = some (getFrame l) := by
  have r1 := xNum_range hB (a := 0) (by omega) (by omega) false 1
  have r2 := xNum_range hB r1.1 r1.2 (xNum l 0 false 1).2.2 1
  obtain ⟨k, rfl⟩ : ∃ m, k = m + 2 := ⟨k - 2, by omega⟩
  unfold spec_GetFrame.f
  rw [spec_l6Num_eq hB hl (by omega) (by omega) _ _ (by omega), Option.bind_some, spec_l6Num_eq hB hl r1.1 r1.2 _ _ (by omega), Option.bind_some, spec_GetTlv_eq hB hl (by omega), Option.bind_some]
  have e : (if (tlv4 l (xNum l (xNum l 0 false 1).2.1 (xNum l 0 false 1).2.2 1).2.1).2.2.2 = true then (spec_GetFrame.j0 (k + 2) l ((tlv4 l (xNum l (xNum l 0 false 1).2.1 (xNum l 0 false 1).2.2 1).2.1).1 == 2) l (xNum l (xNum l 0 false 1).2.1 (xNum l 0 false 1).2.2 1).2.1 (xNum l (xNum l 0 false 1).2.1 (xNum l 0 false 1).2.2 1).2.2 (xNum l 0 false 1).1 (xNum l (xNum l 0 false 1).2.1 (xNum l 0 false 1).2.2 1).1 0) else (spec_GetFrame.j0 (k + 2) l false l (xNum l (xNum l 0 false 1).2.1 (xNum l 0 false 1).2.2 1).2.1 (xNum l (xNum l 0 false 1).2.1 (xNum l 0 false 1).2.2 1).2.2 (xNum l 0 false 1).1 (xNum l (xNum l 0 false 1).2.1 (xNum l 0 false 1).2.2 1).1 0)) =
      spec_GetFrame.j0 (k + 2) l (taggedAt l (xNum l (xNum l 0 false 1).2.1 (xNum l 0 false 1).2.2 1).2.1) l (xNum l (xNum l 0 false 1).2.1 (xNum l 0 false 1).2.2 1).2.1 (xNum l (xNum l 0 false 1).2.1 (xNum l 0 false 1).2.2 1).2.2 (xNum l 0 false 1).1 (xNum l (xNum l 0 false 1).2.1 (xNum l 0 false 1).2.2 1).1 0 := by
    unfold taggedAt
    cases (tlv4 l (xNum l (xNum l 0 false 1).2.1 (xNum l 0 false 1).2.2 1).2.1).2.2.2 <;> rfl
  rw [e]
  unfold getFrame
  simp only [nextNum]
  generalize xNum l 0 false 1 = a at *
  generalize xNum l a.2.1 a.2.2 1 = b at *
  generalize taggedAt l b.2.1 = g
  have j1 : ∀ (at_ : Int) (bad : Bool) (v : Int), 0 ≤ at_ → at_ ≤ l.length → spec_GetFrame.j1 (k + 1) l g l at_ bad a.1 b.1 v =
      some (bif !(xPart l at_ bad 3).2.2 && ((xPart l at_ bad 3).2.1 == (l.length : Int) && (frameOk a.1 b.1 v (xPart l at_ bad 3).1 && !(g && v == 0))) then (a.1, b.1, v, (xPart l at_ bad 3).1, true) else (0, 0, 0, [], false)) := by
    intro at_ bad v h0 h1
    simp only [spec_GetFrame.j1]
    rw [spec_l4Part_eq hB hl (by omega), Option.bind_some]
    generalize xPart l at_ bad 3 = p
    rw [spec_FrameOk_eq, Option.bind_some]
    generalize frameOk a.1 b.1 v p.1 = ok
    cases p.2.2 <;> cases ok <;> cases g <;> by_cases h : p.2.1 = (l.length : Int) <;> by_cases hv : v = 0 <;> first | (simp [h, hv]; done) | (simp [h, hv, beq_eq_false_iff_ne.2 h]; done) | (simp [h, hv, beq_eq_false_iff_ne.2 hv]; done) | (simp [h, hv, beq_eq_false_iff_ne.2 hv, beq_eq_false_iff_ne.2 h]; done)
  cases g with
  | false =>
    simp only [spec_GetFrame.j0]
    rw [if_neg (by simp)]
    exact j1 _ _ _ r2.1 r2.2
  | true =>
    have r3 := xNum_range hB r2.1 r2.2 b.2.2 2
    simp only [spec_GetFrame.j0]
    rw [if_pos trivial, spec_l6Num_eq hB hl r2.1 r2.2 _ _ (by omega), Option.bind_some]
    exact j1 _ _ _ r3.1 r3.2
theorem impl_GetFrame_eq {l : List Int} (hB : B l) (hl : l.length ≤ 1099511627776) {k : Nat} (hk : 60 ≤ k) : impl_GetFrame.f k l = some (getFrame l) := by
  have r1 := xNum_range hB (a := 0) (by omega) (by omega) false 1
  have r2 := xNum_range hB r1.1 r1.2 (xNum l 0 false 1).2.2 1
  have hsame := tagged_same (l := l) (p := nextNum l (xNum l 0 false 1) 1) r2.1
  have hagain := frame_again hB
  obtain ⟨k, rfl⟩ : ∃ m, k = m + 2 := ⟨k - 2, by omega⟩
  unfold impl_GetFrame.f
  rw [impl_num_eq hB hl (by omega) (by omega) _ _ (by omega), Option.bind_some, impl_num_eq hB hl r1.1 r1.2 _ _ (by omega), Option.bind_some]
  unfold getFrame
  simp only [nextNum] at *
  generalize xNum l 0 false 1 = a at *
  generalize xNum l a.2.1 a.2.2 1 = b at *
  have e : (if b.2.2 = true then (impl_GetFrame.j0 (k + 2) l false l b.2.1 b.2.2 a.1 b.1 0) else (if b.2.1 < (l.length : Int) then (if 0 ≤ b.2.1 then (impl_GetFrame.j0 (k + 2) l ((rd l b.2.1) == 2) l b.2.1 b.2.2 a.1 b.1 0) else (none)) else (impl_GetFrame.j0 (k + 2) l false l b.2.1 b.2.2 a.1 b.1 0))) = impl_GetFrame.j0 (k + 2) l (taggedBy l b) l b.2.1 b.2.2 a.1 b.1 0 := by
    unfold taggedBy
    cases b.2.2 with
    | true => rfl
    | false =>
      rw [if_neg (by simp)]
      by_cases h : b.2.1 < (l.length : Int)
      · rw [if_pos h, if_pos r2.1, decide_eq_true h]; rfl
      · rw [if_neg h, decide_eq_false h]; rfl
  rw [e]
  generalize taggedBy l b = g' at *
  generalize taggedAt l b.2.1 = g at *
  have j1 : ∀ (at_ : Int) (bad : Bool) (v : Int), 0 ≤ at_ → at_ ≤ l.length → impl_GetFrame.j1 (k + 1) l l at_ bad a.1 b.1 v =
      some (bif !(xPart l at_ bad 3).2.2 && ((xPart l at_ bad 3).2.1 == (l.length : Int) && decide ((putFrame a.1 b.1 v (xPart l at_ bad 3).1).length ≠ 0 ∧ putFrame a.1 b.1 v (xPart l at_ bad 3).1 = l)) then (a.1, b.1, v, (xPart l at_ bad 3).1, true) else (0, 0, 0, [], false)) := by
    intro at_ bad v h0 h1
    have rp := xPart_range hB h0 h1 bad 3
    simp only [impl_GetFrame.j1]
    rw [impl_part_eq hB hl (by omega), Option.bind_some]
    generalize xPart l at_ bad 3 = p at *
    rw [impl_PutFrame_eq _ _ _ (by omega) (by omega), Option.bind_some]
    have hs := str_inj (putFrame_B a.1 b.1 v rp.1) hB
    generalize putFrame a.1 b.1 v p.1 = f at *
    unfold impl_parts_done.f
    cases p.2.2 with
    | true => rfl
    | false =>
      rw [if_neg (by simp), Option.bind_some]
      by_cases h : p.2.1 = (l.length : Int)
      · rw [beq_iff_eq.2 h, if_pos rfl]
        by_cases h2 : (f.length : Int) = 0
        · rw [if_pos h2, decide_eq_false (by omega)]; rfl
        · rw [if_neg h2]
          by_cases h3 : f = l
          · rw [if_pos (hs.2 h3), decide_eq_true ⟨by omega, h3⟩]; rfl
          · rw [if_neg (fun h => h3 (hs.1 h)), decide_eq_false (fun h => h3 h.2)]; rfl
      · rw [beq_eq_false_iff_ne.2 h, if_neg (by simp)]; rfl
  have j0 : impl_GetFrame.j0 (k + 2) l g' l b.2.1 b.2.2 a.1 b.1 0 = impl_GetFrame.j1 (k + 1) l l (bif g' then xNum l b.2.1 b.2.2 2 else (0, b.2.1, b.2.2)).2.1 (bif g' then xNum l b.2.1 b.2.2 2 else (0, b.2.1, b.2.2)).2.2 a.1 b.1 (bif g' then xNum l b.2.1 b.2.2 2 else (0, b.2.1, b.2.2)).1 := by
    cases g' with
    | false => simp only [impl_GetFrame.j0]; rw [if_neg (by simp)]; rfl
    | true => simp only [impl_GetFrame.j0]; rw [if_pos trivial, impl_num_eq hB hl r2.1 r2.2 _ _ (by omega), Option.bind_some]; rfl
  have rc : ∀ g : Bool, 0 ≤ (bif g then xNum l b.2.1 b.2.2 2 else (0, b.2.1, b.2.2)).2.1 ∧ (bif g then xNum l b.2.1 b.2.2 2 else (0, b.2.1, b.2.2)).2.1 ≤ l.length := by
    intro g
    cases g with
    | false => exact r2
    | true => exact xNum_range hB r2.1 r2.2 b.2.2 2
  rw [j0, j1 _ _ _ (rc g').1 (rc g').2]
  obtain ⟨s1, s2⟩ := hsame
  cases hp : (xPart l (bif g then xNum l b.2.1 b.2.2 2 else (0, b.2.1, b.2.2)).2.1 (bif g then xNum l b.2.1 b.2.2 2 else (0, b.2.1, b.2.2)).2.2 3).2.2 with
  | true => rw [s1, hp]; rfl
  | false =>
    obtain ⟨_, hg⟩ := s2 hp
    subst hg
    rw [hp]
    generalize hc : (bif g' then xNum l b.2.1 b.2.2 2 else (0, b.2.1, b.2.2)) = c at *
    generalize hpp : xPart l c.2.1 c.2.2 3 = p at *
    by_cases h : p.2.1 = (l.length : Int)
    · have := hagain hp h
      rw [show decide ((putFrame a.1 b.1 c.1 p.1).length ≠ 0 ∧ putFrame a.1 b.1 c.1 p.1 = l) = (frameOk a.1 b.1 c.1 p.1 && !(g' && c.1 == 0)) from Bool.eq_iff_iff.2 (by rw [decide_eq_true_iff]; exact this)]
    · rw [beq_eq_false_iff_ne.2 h]; rfl
/-! ### draws: what they answer is in range, whatever was drawn from -/
theorem and255 (x : Int) : 0 ≤ Go.bits .and .i64 x 255 ∧ Go.bits .and .i64 x 255 ≤ 255 := by
  simp only [Go.bits]
  have h : (BitVec.ofInt 64 x &&& BitVec.ofInt 64 255).toNat ≤ 255 := by
    rw [BitVec.toNat_and, show (BitVec.ofInt 64 255).toNat = 255 by decide]
    exact Nat.and_le_right
  show 0 ≤ IntKind.i64.wrap (((BitVec.ofInt 64 x &&& BitVec.ofInt 64 255).toNat : Int)) ∧ IntKind.i64.wrap (((BitVec.ofInt 64 x &&& BitVec.ofInt 64 255).toNat : Int)) ≤ 255
  rw [IntKind.wrap_i64]
  omega
/-- A draw that went well: the value in range, the place not behind the end. -/
def Drawn (l : List Int) (lo hi : Int) (o : Option (Int × Int × Int)) : Prop := ∃ v i s, o = some (v, i, s) ∧ lo ≤ v ∧ v ≤ hi ∧ 0 ≤ i ∧ i ≤ l.length
theorem spec_l1Byte_eq {l : List Int} (hl : l.length ≤ 1099511627776) {i : Int} (h0 : 0 ≤ i) (h1 : i ≤ l.length) (s : Int) : Drawn l 0 255 (spec_l1Byte.f l i s) := by
  unfold spec_l1Byte.f
  by_cases h : i < (l.length : Int)
  · rw [if_pos h, if_pos h0, w64 (n := i + 1) (by omega) (by omega)]
    exact ⟨_, _, _, rfl, (and255 _).1, (and255 _).2, by omega, by omega⟩
  · rw [if_neg h]
    exact ⟨_, _, _, rfl, (and255 _).1, (and255 _).2, h0, h1⟩
theorem spec_l1New_l0 (l : List Int) (hl : l.length ≤ 1099511627776) (d : Nat) : ∀ (k i : Nat) (s : Int), l.length - i = d → d < k → ∃ s', spec_l1New.l0 k l s (i : Int) = some (l, 0, s') := by
  induction d with
  | zero =>
    intro k i s hd hk
    obtain ⟨k, rfl⟩ : ∃ m, k = m + 1 := ⟨k - 1, by omega⟩
    simp only [spec_l1New.l0]
    rw [if_neg (by omega)]
    exact ⟨_, rfl⟩
  | succ d ih =>
    intro k i s hd hk
    obtain ⟨k, rfl⟩ : ∃ m, k = m + 1 := ⟨k - 1, by omega⟩
    have nx := fun s => ih k (i + 1) s (by omega) (by omega)
    rw [show ((i + 1 : Nat) : Int) = (i : Int) + 1 by omega] at nx
    simp only [spec_l1New.l0]
    rw [if_pos (by omega), w64 (n := (i : Int) + 1) (by omega) (by omega)]
    by_cases h : (i : Int) < 4000
    · rw [if_pos h, if_pos (by omega)]; exact nx _
    · rw [if_neg h]; exact ⟨_, rfl⟩
theorem spec_l1New_eq {l : List Int} (hl : l.length ≤ 1099511627776) {k : Nat} (hk : l.length < k) : ∃ s, spec_l1New.f k l = some (l, 0, s) := by
  unfold spec_l1New.f
  exact spec_l1New_l0 l hl l.length k 0 _ (by omega) hk
theorem tmod_range {x n : Int} (hx : 0 ≤ x) (hn : 0 < n) : 0 ≤ Int.tmod x n ∧ Int.tmod x n ≤ n - 1 := by
  rw [Int.tmod_eq_emod_of_nonneg hx]
  have := Int.emod_nonneg x (show n ≠ 0 by omega)
  have := Int.emod_lt_of_pos x hn
  omega
theorem spec_l1Below_eq {l : List Int} (hl : l.length ≤ 1099511627776) {i : Int} (h0 : 0 ≤ i) (h1 : i ≤ l.length) (s : Int) {n : Int} (hn : 0 < n) : Drawn l 0 (n - 1) (spec_l1Below.f l i s n) := by
  unfold spec_l1Below.f
  rw [if_neg (by omega)]
  obtain ⟨v, i, s, e, v0, v1, i0, i1⟩ := spec_l1Byte_eq hl h0 h1 s
  have nz : ¬ n = 0 := by omega
  simp only [e, Option.bind_some, if_neg nz]
  by_cases h : n ≤ 256
  · rw [if_pos h]
    exact ⟨_, _, _, rfl, (tmod_range v0 hn).1, (tmod_range v0 hn).2, i0, i1⟩
  · rw [if_neg h]
    obtain ⟨v2, i2, s2, e2, v20, v21, i20, i21⟩ := spec_l1Byte_eq hl i0 i1 s
    simp only [e2, Option.bind_some]
    obtain ⟨v3, i3, s3, e3, v30, v31, i30, i31⟩ := spec_l1Byte_eq hl i20 i21 s2
    simp only [e3, Option.bind_some]
    have hp : 0 ≤ wrap64 (wrap64 (wrap64 (v * 65536) + wrap64 (v2 * 256)) + v3) := by
      rw [w64 (n := v * 65536) (by omega) (by omega), w64 (n := v2 * 256) (by omega) (by omega), w64 (n := v * 65536 + v2 * 256) (by omega) (by omega), w64 (by omega) (by omega)]
      omega
    exact ⟨_, _, _, rfl, (tmod_range hp hn).1, (tmod_range hp hn).2, i30, i31⟩
theorem spec_l1Int_eq {l : List Int} (hl : l.length ≤ 1099511627776) {i : Int} (h0 : 0 ≤ i) (h1 : i ≤ l.length) (s : Int) {c : List Int} (hc : 0 < c.length) : ∃ j i' s', spec_l1Int.f l i s c = some (rd c (j : Nat), i', s') ∧ j < c.length ∧ 0 ≤ i' ∧ i' ≤ l.length := by
  unfold spec_l1Int.f
  obtain ⟨v, i, s, e, v0, v1, i0, i1⟩ := spec_l1Below_eq hl h0 h1 s (n := (c.length : Int)) (by omega)
  simp only [e, Option.bind_some]
  rw [if_pos v0, if_pos (by omega)]
  obtain ⟨j, rfl⟩ := Int.eq_ofNat_of_zero_le v0
  exact ⟨j, _, _, rfl, by omega, i0, i1⟩
theorem spec_l6Mac_eq {l : List Int} (hl : l.length ≤ 1099511627776) {i : Int} (h0 : 0 ≤ i) (h1 : i ≤ l.length) (s : Int) : Drawn l 11 14 (spec_l6Mac.f l i s) := by
  unfold spec_l6Mac.f
  obtain ⟨j, i', s', e, hj, i0, i1⟩ := spec_l1Int_eq hl h0 h1 s (c := [11, 12, 13, 14]) (by simp)
  simp only [e, Option.bind_some]
  refine ⟨_, _, _, rfl, ?_, ?_, i0, i1⟩ <;>
  · simp only [List.length_cons, List.length_nil] at hj
    rw [rd_nat]
    match j, hj with
    | 0, _ => decide
    | 1, _ => decide
    | 2, _ => decide
    | 3, _ => decide
theorem spec_PutTlv_eq {p : List Int} (t : Int) {b : List Int} (hp : p.length ≤ 1099511627776) (hb : b.length ≤ 1099511627776) {k : Nat} (hk : 1 ≤ k) : spec_PutTlv.f k p t b = some (putTlv p t b) := by
  obtain ⟨k, rfl⟩ : ∃ m, k = m + 1 := ⟨k - 1, by omega⟩
  unfold spec_PutTlv.f putTlv
  rw [Option.bind_some, if_pos (by simp only [List.length_nil]; omega), Option.bind_some, spec_l1In_eq, Option.bind_some, List.nil_append]
  by_cases h1 : 0 ≤ t ∧ t ≤ 255
  · rw [if_pos (decide_eq_true h1)]
    simp only [spec_PutTlv.j0]
    by_cases h2 : (b.length : Int) > 250
    · rw [if_pos (decide_eq_true h2), if_neg (by omega)]
    · rw [if_neg (by simpa using h2), if_pos (by omega), Option.bind_some, if_pos (show 0 ≤ t ∧ t ≤ 255 ∧ b.length ≤ 250 by omega)]
      unfold tlv
      by_cases h3 : (b.length : Int) > 127
      · rw [if_pos h3, if_pos (show 128 ≤ b.length by omega), if_pos (by simp only [List.length_append, List.length_cons, List.length_nil]; omega), Option.bind_some, if_pos (by simp only [List.length_append, List.length_cons, List.length_nil]; omega), Option.bind_some, if_pos (by simp only [List.length_append, List.length_cons, List.length_nil]; omega), show (b.length : Int) % 256 = b.length by omega]
        simp
      · rw [if_neg h3, if_neg (show ¬ 128 ≤ b.length by omega), if_pos (by simp only [List.length_append, List.length_cons, List.length_nil]; omega), Option.bind_some, if_pos (by simp only [List.length_append, List.length_cons, List.length_nil]; omega), show (b.length : Int) % 256 = b.length by omega]
        simp
  · rw [if_neg (by simpa using h1), if_neg (by omega)]
    simp only [spec_PutTlv.j0]
    rfl
theorem sameBytes_l0 (l : List Int) (hn : l.length ≤ 1099511627776) (d : Nat) : ∀ (k i : Nat), l.length - i = d → d < k → laws_sameBytes.l0 k l l (i : Int) = some true := by
  induction d with
  | zero =>
    intro k i hd hk
    obtain ⟨k, rfl⟩ : ∃ m, k = m + 1 := ⟨k - 1, by omega⟩
    simp only [laws_sameBytes.l0]
    rw [if_neg (by omega)]
  | succ d ih =>
    intro k i hd hk
    obtain ⟨k, rfl⟩ : ∃ m, k = m + 1 := ⟨k - 1, by omega⟩
    have nx := ih k (i + 1) (by omega) (by omega)
    rw [show ((i + 1 : Nat) : Int) = (i : Int) + 1 by omega] at nx
    simp only [laws_sameBytes.l0]
    rw [if_pos (by omega), if_pos (by omega), if_pos (by omega), w64 (by omega) (by omega), nx, if_pos trivial]
theorem sameBytes_self {l : List Int} (hn : l.length ≤ 1099511627776) {k : Nat} (hk : l.length < k) : laws_sameBytes.f k l l = some true := by
  unfold laws_sameBytes.f
  rw [if_pos rfl]
  exact sameBytes_l0 l hn l.length k 0 (by omega) hk
theorem spec_l1Bend_eq {b : List Int} (hb : b.length ≤ 1099511627776) {i : Int} (h0 : 0 ≤ i) (h1 : i ≤ b.length) (s : Int) {l : List Int} (hl : l.length ≤ 1099511627776) (hB : B l) : ∃ l' i' s', spec_l1Bend.f b i s l = some (l', i', s') ∧ B l' ∧ l'.length ≤ l.length + 1 ∧ 0 ≤ i' ∧ i' ≤ b.length := by
  unfold spec_l1Bend.f
  by_cases c : (l.length : Int) = 0
  · rw [if_pos c]; exact ⟨_, _, _, rfl, hB, by omega, h0, h1⟩
  · rw [if_neg c]
    obtain ⟨v, i, s, e, v0, v1, i0, i1⟩ := spec_l1Below_eq hb h0 h1 s (n := 5) (by omega)
    simp only [e, Option.bind_some]
    by_cases c0 : v = 0
    · rw [if_pos c0]
      obtain ⟨v, i, s, e, v0, v1, i0, i1⟩ := spec_l1Below_eq hb i0 i1 s (n := (l.length : Int)) (by omega)
      simp only [e, Option.bind_some]
      obtain ⟨j, i, s, e, hj, i0, i1⟩ := spec_l1Int_eq hb i0 i1 s (c := [0, 1, 2, 4, 5, 6, 48, 127, 128, 129, 160, 255]) (by simp)
      simp only [e, Option.bind_some]
      rw [if_pos v0, if_pos (by omega)]
      refine ⟨_, _, _, rfl, fun x hx => ?_, by rw [List.length_set]; omega, i0, i1⟩
      rcases List.mem_or_eq_of_mem_set hx with hx | hx
      · exact hB x hx
      · rw [hx]; omega
    · rw [if_neg c0]
      by_cases c1 : v = 1
      · rw [if_pos c1, if_pos (by omega)]
        exact ⟨_, _, _, rfl, hB.app (B.one (by omega) (by omega)), by simp, i0, i1⟩
      · rw [if_neg c1]
        by_cases c2 : v = 2
        · rw [if_pos c2]
          obtain ⟨v, i, s, e, v0, v1, i0, i1⟩ := spec_l1Below_eq hb i0 i1 s (n := (l.length : Int)) (by omega)
          simp only [e, Option.bind_some]
          rw [if_pos v0, if_pos (by omega)]
          exact ⟨_, _, _, rfl, hB.take _, by rw [List.length_take]; omega, i0, i1⟩
        · rw [if_neg c2]
          exact ⟨_, _, _, rfl, hB, by omega, i0, i1⟩
theorem spec_l1Bytes_l0 {b : List Int} (hb : b.length ≤ 1099511627776) (n : Int) (hn : n ≤ 1000) (d : Nat) : ∀ (k : Nat) (x : List Int) (j i s : Int), n - j ≤ d → 0 ≤ j → j ≤ 1000 → d < k → B x → x.length ≤ 100000 + j → 0 ≤ i → i ≤ b.length → ∃ x' i' s', spec_l1Bytes.l0 k n x j b i s = some (x', i', s') ∧ B x' ∧ x'.length ≤ x.length + d ∧ 0 ≤ i' ∧ i' ≤ b.length := by
  induction d with
  | zero =>
    intro k x j i s hd hj hj2 hk hB hx h0 h1
    obtain ⟨k, rfl⟩ : ∃ m, k = m + 1 := ⟨k - 1, by omega⟩
    simp only [spec_l1Bytes.l0]
    rw [if_neg (by omega)]
    exact ⟨_, _, _, rfl, hB, by omega, h0, h1⟩
  | succ d ih =>
    intro k x j i s hd hj hj2 hk hB hx h0 h1
    obtain ⟨k, rfl⟩ : ∃ m, k = m + 1 := ⟨k - 1, by omega⟩
    simp only [spec_l1Bytes.l0]
    by_cases c : j < n
    · rw [if_pos c, w64 (n := j + 1) (by omega) (by omega)]
      obtain ⟨v, i, s, e, v0, v1, i0, i1⟩ := spec_l1Byte_eq hb h0 h1 s
      simp only [e, Option.bind_some]
      rw [if_pos (by omega)]
      obtain ⟨x', i', s', e', q1, q2, q3⟩ := ih k (x ++ [v % 256]) (j + 1) i s (by omega) (by omega) (by omega) (by omega) (hB.app (B.mod v)) (by simp; omega) i0 i1
      exact ⟨x', i', s', e', q1, by simp at q2; omega, q3⟩
    · rw [if_neg c]
      exact ⟨_, _, _, rfl, hB, by omega, h0, h1⟩
theorem spec_l1Bytes_eq {b : List Int} (hb : b.length ≤ 1099511627776) {i : Int} (h0 : 0 ≤ i) (h1 : i ≤ b.length) (s : Int) (n : Int) {d : Nat} (hn : n ≤ d) (hd : d ≤ 1000) {k : Nat} (hk : d < k) : ∃ x' i' s', spec_l1Bytes.f k b i s n = some (x', i', s') ∧ B x' ∧ x'.length ≤ d ∧ 0 ≤ i' ∧ i' ≤ b.length := by
  unfold spec_l1Bytes.f
  have := spec_l1Bytes_l0 hb n (by omega) d k [] 0 i s (by omega) (by omega) (by omega) hk B.nil (by simp) h0 h1
  simpa using this
theorem spec_l1Some_eq {b : List Int} (hb : b.length ≤ 1099511627776) {i : Int} (h0 : 0 ≤ i) (h1 : i ≤ b.length) (s : Int) {k : Nat} (hk : 10 ≤ k) : ∃ x' i' s', spec_l1Some.f k b i s = some (x', i', s') ∧ B x' ∧ x'.length ≤ 9 ∧ 0 ≤ i' ∧ i' ≤ b.length := by
  unfold spec_l1Some.f
  obtain ⟨j, i, s, e, hj, i0, i1⟩ := spec_l1Int_eq hb h0 h1 s (c := [0, 1, 2, 5, 9]) (by simp)
  have hv : rd ([0, 1, 2, 5, 9] : List Int) (j : Nat) ≤ 9 := by
    simp only [List.length_cons, List.length_nil] at hj
    rw [rd_nat]
    match j, hj with
    | 0, _ => decide
    | 1, _ => decide
    | 2, _ => decide
    | 3, _ => decide
    | 4, _ => decide
  simp only [e, Option.bind_some]
  obtain ⟨x, i, s, e, hB, hx, i0, i1⟩ := spec_l1Bytes_eq hb i0 i1 s _ (d := 9) hv (by omega) (k := k) (by omega)
  simp only [e, Option.bind_some]
  exact ⟨_, _, _, rfl, hB, hx, i0, i1⟩
theorem spec_PutFrame_eq (d s t : Int) {b : List Int} (hb : b.length ≤ 1099511627776) {k : Nat} (hk : 20 ≤ k) : spec_PutFrame.f k d s t b = some (putFrame d s t b) := by
  unfold spec_PutFrame.f putFrame
  rw [spec_FrameOk_eq, Option.bind_some]
  cases h : frameOk d s t b with
  | false => rw [if_neg (by simp)]; rfl
  | true =>
    have hok := h
    simp only [frameOk, decide_eq_true_eq] at hok
    have l1 := putInt_len d
    have l2 := putInt_len s
    have l3 := putInt_len t
    have t1 := putInt_tlv_len 1 d
    have t2 := putInt_tlv_len 1 s
    have t3 := putInt_tlv_len 2 t
    have e1 : putTlv [] 1 (putInt d) = tlv 1 (putInt d) := by unfold putTlv; rw [if_pos (by omega)]; rfl
    have e2 : putTlv (tlv 1 (putInt d)) 1 (putInt s) = tlv 1 (putInt d) ++ tlv 1 (putInt s) := by unfold putTlv; rw [if_pos (by omega)]
    have e3 : putTlv (tlv 1 (putInt d) ++ tlv 1 (putInt s)) 2 (putInt t) = tlv 1 (putInt d) ++ tlv 1 (putInt s) ++ tlv 2 (putInt t) := by unfold putTlv; rw [if_pos (by omega)]
    rw [if_pos rfl, spec_PutInt_eq d (by omega), Option.bind_some, spec_PutTlv_eq 1 (by simp) (by omega) (by omega), Option.bind_some, e1, spec_PutInt_eq s (by omega), Option.bind_some, spec_PutTlv_eq 1 (by omega) (by omega) (by omega), Option.bind_some, e2, cond_true]
    unfold frameBytes
    by_cases h0 : t = 0
    · rw [if_pos h0, if_pos h0, spec_PutTlv_eq 3 (by rw [List.length_append]; omega) hb (by omega), Option.bind_some]
      unfold putTlv
      rw [if_pos (by omega)]
      simp
    · rw [if_neg h0, if_neg h0, spec_PutInt_eq t (by omega), Option.bind_some, spec_PutTlv_eq 2 (by rw [List.length_append]; omega) (by omega) (by omega), Option.bind_some, e3, spec_PutTlv_eq 3 (by rw [List.length_append, List.length_append]; omega) hb (by omega), Option.bind_some]
      unfold putTlv
      rw [if_pos (by omega)]
      simp
theorem putFrame_len (d s t : Int) (b : List Int) : (putFrame d s t b).length ≤ 41 := by
  unfold putFrame
  cases h : frameOk d s t b with
  | false => simp
  | true =>
    have hok := h
    simp only [frameOk, decide_eq_true_eq] at hok
    rw [cond_true]
    have := frameBytes_len d s (if t = 0 then none else some t) b
    omega
theorem putFrame_get {l : List Int} (hB : B l) (h : (getFrame l).2.2.2.2 = true) : frameOk (getFrame l).1 (getFrame l).2.1 (getFrame l).2.2.1 (getFrame l).2.2.2.1 = true ∧ putFrame (getFrame l).1 (getFrame l).2.1 (getFrame l).2.2.1 (getFrame l).2.2.2.1 = l ∧ (getFrame l).2.2.2.1.length ≤ 20 := by
  have hag := frame_again hB
  unfold getFrame at h ⊢
  simp only at h ⊢ hag
  generalize xNum l 0 false 1 = a at *
  generalize nextNum l a 1 = b at *
  generalize taggedAt l b.2.1 = g at *
  generalize (bif g then nextNum l b 2 else (0, b.2.1, b.2.2)) = c at *
  generalize xPart l c.2.1 c.2.2 3 = p at *
  cases hq : (!p.2.2 && (p.2.1 == (l.length : Int) && (frameOk a.1 b.1 c.1 p.1 && !(g && c.1 == 0)))) with
  | false => rw [hq] at h; simp at h
  | true =>
    have hq2 := hq
    rw [Bool.and_eq_true, Bool.and_eq_true, Bool.not_eq_true', beq_iff_eq] at hq2
    obtain ⟨q1, q2, q3⟩ := hq2
    have h1 := (hag q1 q2).2 q3
    have hok := (Bool.and_eq_true _ _ ▸ q3).1
    have h20 : p.1.length ≤ 20 := by simp only [frameOk, decide_eq_true_eq] at hok; omega
    exact ⟨hok, h1.2, h20⟩
theorem spec_l6Draw_eq {l : List Int} (hl : l.length ≤ 1099511627776) {i : Int} (h0 : 0 ≤ i) (h1 : i ≤ l.length) (s : Int) {k : Nat} (hk : 10 ≤ k) : ∃ d r t b i' s', spec_l6Draw.f k l i s = some (d, r, t, b, i', s') ∧ B b ∧ b.length ≤ 9 ∧ 0 ≤ i' ∧ i' ≤ l.length := by
  unfold spec_l6Draw.f
  obtain ⟨j, i, s, e, hj, i0, i1⟩ := spec_l1Int_eq hl h0 h1 s (c := [0, 11, 12, 13, 14, 11, 12]) (by simp)
  simp only [e, Option.bind_some]
  obtain ⟨v, i, s, e, v0, v1, i0, i1⟩ := spec_l6Mac_eq hl i0 i1 s
  simp only [e, Option.bind_some]
  obtain ⟨j, i, s, e, hj, i0, i1⟩ := spec_l1Int_eq hl i0 i1 s (c := [0, 0, 0, 1, 2, 3]) (by simp)
  simp only [e, Option.bind_some]
  obtain ⟨x, i, s, e, hB, hx, i0, i1⟩ := spec_l1Some_eq hl i0 i1 s hk
  simp only [e, Option.bind_some]
  exact ⟨_, _, _, _, _, _, rfl, hB, hx, i0, i1⟩
theorem B_zeros (n : Nat) : B (List.replicate n 0) := fun x hx => by rw [(List.mem_replicate.1 hx).2]; omega
theorem spec_l6Any_eq {l : List Int} (hl : l.length ≤ 1099511627776) {i : Int} (h0 : 0 ≤ i) (h1 : i ≤ l.length) (s : Int) {k : Nat} (hk : 10 ≤ k) : ∃ d r t b i' s', spec_l6Any.f k l i s = some (d, r, t, b, i', s') ∧ B b ∧ b.length ≤ 21 ∧ 0 ≤ i' ∧ i' ≤ l.length := by
  unfold spec_l6Any.f
  obtain ⟨d, r, t, b, i, s, e, hB, hb, i0, i1⟩ := spec_l6Draw_eq hl h0 h1 s hk
  simp only [e, Option.bind_some]
  obtain ⟨v, i, s, e, v0, v1, i0, i1⟩ := spec_l1Below_eq hl i0 i1 s (n := 10) (by omega)
  simp only [e, Option.bind_some]
  by_cases c0 : v = 0
  · rw [if_pos c0]
    obtain ⟨j, i, s, e, hj, i0, i1⟩ := spec_l1Int_eq hl i0 i1 s (c := [-1, 9999, 10000]) (by simp)
    simp only [e, Option.bind_some]
    exact ⟨_, _, _, _, _, _, rfl, hB, by omega, i0, i1⟩
  · rw [if_neg c0]
    by_cases c1 : v = 1
    · rw [if_pos c1]
      obtain ⟨j, i, s, e, hj, i0, i1⟩ := spec_l1Int_eq hl i0 i1 s (c := [0, 9999, 10000]) (by simp)
      simp only [e, Option.bind_some]
      exact ⟨_, _, _, _, _, _, rfl, hB, by omega, i0, i1⟩
    · rw [if_neg c1]
      by_cases c2 : v = 2
      · rw [if_pos c2]
        obtain ⟨j, i, s, e, hj, i0, i1⟩ := spec_l1Int_eq hl i0 i1 s (c := [-1, 99, 100]) (by simp)
        simp only [e, Option.bind_some]
        exact ⟨_, _, _, _, _, _, rfl, hB, by omega, i0, i1⟩
      · rw [if_neg c2]
        by_cases c3 : v = 3
        · rw [if_pos c3]
          obtain ⟨v, i, s, e, v0, v1, i0, i1⟩ := spec_l1Below_eq hl i0 i1 s (n := 2) (by omega)
          simp only [e, Option.bind_some]
          rw [w64 (n := 20 + v) (by omega) (by omega), if_pos (by omega), if_pos (by omega)]
          exact ⟨_, _, _, _, _, _, rfl, B_zeros _, by rw [List.length_replicate]; omega, i0, i1⟩
        · rw [if_neg c3]
          exact ⟨_, _, _, _, _, _, rfl, hB, by omega, i0, i1⟩
theorem spec_DrawPutFrame_eq {b : List Int} (hb : b.length ≤ 1099511627776) {k : Nat} (hk : b.length + 10 ≤ k) : ∃ d r t x, spec_DrawPutFrame.f k b = some (d, r, t, x) ∧ B x ∧ x.length ≤ 21 := by
  unfold spec_DrawPutFrame.f
  obtain ⟨s, e⟩ := spec_l1New_eq hb (k := k) (by omega)
  simp only [e, Option.bind_some]
  obtain ⟨d, r, t, x, i, s, e, hB, hx, i0, i1⟩ := spec_l6Any_eq hb (i := 0) (by omega) (by omega) s (k := k) (by omega)
  simp only [e, Option.bind_some]
  exact ⟨_, _, _, _, rfl, hB, hx⟩
theorem spec_DrawGetFrame_eq {b : List Int} (hb : b.length ≤ 1099511627776) {k : Nat} (hk : b.length + 20 < k) : ∃ l, spec_DrawGetFrame.f k b = some l ∧ B l ∧ l.length ≤ 42 := by
  unfold spec_DrawGetFrame.f
  obtain ⟨s, e⟩ := spec_l1New_eq hb (k := k) (by omega)
  simp only [e, Option.bind_some]
  obtain ⟨d, r, t, x, i, s, e, hB, hx, i0, i1⟩ := spec_l6Draw_eq hb (i := 0) (by omega) (by omega) s (k := k) (by omega)
  simp only [e, Option.bind_some]
  have hp := putFrame_len d r t x
  rw [spec_PutFrame_eq d r t (by omega) (by omega), Option.bind_some]
  obtain ⟨l', i, s, e, hB, hl, _⟩ := spec_l1Bend_eq hb i0 i1 s (l := putFrame d r t x) (by omega) (putFrame_B _ _ _ hB)
  simp only [e, Option.bind_some]
  exact ⟨_, rfl, hB, by omega⟩
theorem spec_DrawTagged_eq {b : List Int} (hb : b.length ≤ 1099511627776) {k : Nat} (hk : b.length + 10 ≤ k) : ∃ d r t x g, spec_DrawTagged.f k b = some (d, r, t, x, g) ∧ x.length ≤ 21 := by
  unfold spec_DrawTagged.f
  obtain ⟨s, e⟩ := spec_l1New_eq hb (k := k) (by omega)
  simp only [e, Option.bind_some]
  obtain ⟨d, r, t, x, i, s, e, hB, hx, i0, i1⟩ := spec_l6Any_eq hb (i := 0) (by omega) (by omega) s (k := k) (by omega)
  simp only [e, Option.bind_some]
  obtain ⟨j, i, s, e, hj, i0, i1⟩ := spec_l1Int_eq hb i0 i1 s (c := [0, 1, 5, -1]) (by simp)
  simp only [e, Option.bind_some]
  exact ⟨_, _, _, _, _, rfl, hx⟩
theorem impl_SameFrame_self (d s t : Int) (b : List Int) : impl_SameFrame.f d s t b d s t b = some true := by
  unfold impl_SameFrame.f
  rw [if_pos rfl, if_pos rfl, if_pos rfl, beq_self_eq_true]
end Go.Proofs.Ytkcgghgkmgbphaa.EqFnFrames
