/- What the printed functions of FnVecs answer, said in plain words of lists and numbers. Conditions: sizes and ranges, as each lemma names them. -/
import Derived.Test.YtkcgghgkmgbphaaPFnVecsx12
import Derived.Test.YtkcgghgkmgbphaaBaseFnVecs
import Derived.Test.YtkcgghgkmgbphaaBytesFnVecs
import Derived.Test.YtkcgghgkmgbphaaVecFnVecs
namespace Go.Proofs.Ytkcgghgkmgbphaa.EqFnVecs
open Go.RowKit Go.Proofs.Ytkcgghgkmgbphaa.PFnVecs Go.Proofs.YtkcgghgkmgbphaaW.PrintWords Go.Proofs.YtkcgghgkmgbphaaW.PrintLast Go.Proofs.Ytkcgghgkmgbphaa.Base
theorem spec_l1In_eq (a b c : Int) : spec_l1In.f a b c = some (decide (b ≤ a ∧ a ≤ c)) := by
  unfold spec_l1In.f
  by_cases h : a ≥ b
  · rw [if_pos h]; congr 1; simp; omega
  · rw [if_neg h]; congr 1; simp; omega
theorem impl_in_eq (a b c : Int) : impl_in.f a b c = some (decide (b ≤ a ∧ a ≤ c)) := by
  unfold impl_in.f
  by_cases h : a ≥ b
  · rw [if_pos h]; congr 1; simp; omega
  · rw [if_neg h]; congr 1; simp; omega
theorem spec_l1Clip_eq (n : Int) : spec_l1Clip.f n = some (clip n) := by
  unfold spec_l1Clip.f clip
  repeat' split
  all_goals first | rfl | omega
theorem spec_PutInt_eq (n : Int) {k : Nat} (hk : 10 ≤ k) : spec_PutInt.f k n = some (putInt n) := by
  unfold spec_PutInt.f
  rw [spec_l1Clip_eq, Option.bind_some]
  unfold putInt
  obtain ⟨h0, h1⟩ := clip_range n
  generalize clip n = c at *
  obtain ⟨k, rfl⟩ : ∃ m, k = m + 5 := ⟨k - 5, by omega⟩
  have step : ∀ (k : Nat) (x : Int) (l : List Int), ¬ (-128 ≤ x ∧ x ≤ 127) → l.length < 1000 → spec_PutInt.l0 (k + 1) x l = spec_PutInt.l0 k (x / 256) ((x / 256) % 256 :: l) := by
    intro k x l hx hl
    simp only [spec_PutInt.l0, Option.bind_some, List.length_cons, List.length_nil, List.cons_append, List.nil_append]
    by_cases c : x < -128
    · rw [if_pos c, if_pos (by omega)]
    · rw [if_neg c, if_pos (by omega), if_pos (by omega)]
  have stop : ∀ (k : Nat) (x : Int) (l : List Int), (-128 ≤ x ∧ x ≤ 127) → spec_PutInt.l0 (k + 1) x l = some l := by
    intro k x l hx
    simp only [spec_PutInt.l0]
    rw [if_neg (by omega), if_neg (by omega)]
  unfold intBytes
  by_cases c1 : -128 ≤ c ∧ c ≤ 127
  · rw [if_pos c1]; exact stop _ _ _ c1
  · rw [if_neg c1, step _ _ _ c1 (by simp)]
    by_cases c2 : -32768 ≤ c ∧ c ≤ 32767
    · rw [if_pos c2]; exact stop _ _ _ (by omega)
    · rw [if_neg c2, step _ _ _ (by omega) (by simp)]
      by_cases c3 : -8388608 ≤ c ∧ c ≤ 8388607
      · rw [if_pos c3, stop _ _ _ (by omega), show c / 256 / 256 = c / 65536 by omega]
      · rw [if_neg c3, step _ _ _ (by omega) (by simp), stop _ _ _ (by omega), show c / 256 / 256 = c / 65536 by omega, show c / 65536 / 256 = c / 16777216 by omega]
theorem impl_PutInt_eq (n : Int) {k : Nat} (hk : 20 ≤ k) : impl_PutInt.f k n = some (putInt n) := by
  unfold impl_PutInt.f
  rw [mxmn]
  unfold putInt
  obtain ⟨h0, h1⟩ := clip_range n
  generalize clip n = c at *
  obtain ⟨k, rfl⟩ : ∃ m, k = m + 12 := ⟨k - 12, by omega⟩
  have nx : ∀ (k : Nat) (j : Int) (lo hi : Int), j < 4 → 0 ≤ wrap64 (wrap64 (8 * j) - 1) → shl .i64 (-1) (wrap64 (wrap64 (8 * j) - 1)) = lo → wrap64 (shl .i64 1 (wrap64 (wrap64 (8 * j) - 1)) - 1) = hi →
      impl_PutInt.l0 (k + 1) c j = if lo ≤ c ∧ c ≤ hi then impl_PutInt.j1 k c j else impl_PutInt.l0 k c (wrap64 (j + 1)) := by
    intro k j lo hi hj hs e1 e2
    simp only [impl_PutInt.l0]
    rw [if_pos hj, if_pos hs, e1, e2, impl_in_eq, Option.bind_some]
    by_cases h : lo ≤ c ∧ c ≤ hi
    · rw [if_pos (by simpa using h), if_pos h]
    · rw [if_neg (by simpa using h), if_neg h]
  have out : ∀ (k : Nat) (l : List Int) (j : Int) (v : Int), 0 ≤ j → j ≤ 3 → l.length < 1000 → shr .i64 c (wrap64 (8 * j)) = v → impl_PutInt.l1 (k + 1) c l j = impl_PutInt.l1 k c (l ++ [v % 256]) (wrap64 (j - 1)) := by
    intro k l j v hj hj3 hl hv
    simp only [impl_PutInt.l1]
    rw [if_pos hj, if_pos (by rw [w64 (by omega) (by omega)]; omega), if_pos (by omega), hv]
  have fin : ∀ (k : Nat) (l : List Int), impl_PutInt.l1 (k + 1) c l (-1) = some l := by
    intro k l
    simp only [impl_PutInt.l1]
    rw [if_neg (by omega)]
  have s0 : shr .i64 c (wrap64 (8 * 0)) = c := by unfold shr; rw [show (2 : Int) ^ min (wrap64 (8 * 0)).toNat IntKind.i64.bits = 1 by decide +kernel, Int.ediv_one]
  have s1 : shr .i64 c (wrap64 (8 * 1)) = c / 256 := by unfold shr; rw [show (2 : Int) ^ min (wrap64 (8 * 1)).toNat IntKind.i64.bits = 256 by decide +kernel]
  have s2 : shr .i64 c (wrap64 (8 * 2)) = c / 65536 := by unfold shr; rw [show (2 : Int) ^ min (wrap64 (8 * 2)).toNat IntKind.i64.bits = 65536 by decide +kernel]
  have s3 : shr .i64 c (wrap64 (8 * 3)) = c / 16777216 := by unfold shr; rw [show (2 : Int) ^ min (wrap64 (8 * 3)).toNat IntKind.i64.bits = 16777216 by decide +kernel]
  have w1 : wrap64 (1 - 1) = 0 := by decide +kernel
  have w2 : wrap64 (2 - 1) = 1 := by decide +kernel
  have w3 : wrap64 (3 - 1) = 2 := by decide +kernel
  have w4 : wrap64 (4 - 1) = 3 := by decide +kernel
  have w0 : wrap64 (0 - 1) = -1 := by decide +kernel
  unfold intBytes
  rw [nx (k + 11) 1 (-128) 127 (by omega) (by decide +kernel) (by decide +kernel) (by decide +kernel)]
  by_cases c1 : -128 ≤ c ∧ c ≤ 127
  · rw [if_pos c1, if_pos c1]
    simp only [impl_PutInt.j1]
    rw [w1, out _ _ 0 c (by omega) (by omega) (by simp) s0, w0, fin]
    rfl
  · rw [if_neg c1, if_neg c1, show wrap64 (1 + 1) = 2 by decide +kernel, nx _ 2 (-32768) 32767 (by omega) (by decide +kernel) (by decide +kernel) (by decide +kernel)]
    by_cases c2 : -32768 ≤ c ∧ c ≤ 32767
    · rw [if_pos c2, if_pos c2]
      simp only [impl_PutInt.j1]
      rw [w2, out _ _ 1 _ (by omega) (by omega) (by simp) s1, w1, out _ _ 0 c (by omega) (by omega) (by simp) s0, w0, fin]
      rfl
    · rw [if_neg c2, if_neg c2, show wrap64 (2 + 1) = 3 by decide +kernel, nx _ 3 (-8388608) 8388607 (by omega) (by decide +kernel) (by decide +kernel) (by decide +kernel)]
      by_cases c3 : -8388608 ≤ c ∧ c ≤ 8388607
      · rw [if_pos c3, if_pos c3]
        simp only [impl_PutInt.j1]
        rw [w3, out _ _ 2 _ (by omega) (by omega) (by simp) s2, w2, out _ _ 1 _ (by omega) (by omega) (by simp) s1, w1, out _ _ 0 c (by omega) (by omega) (by simp) s0, w0, fin]
        rfl
      · rw [if_neg c3, if_neg c3, show wrap64 (3 + 1) = 4 by decide +kernel]
        have : impl_PutInt.l0 (k + 8 + 1) c 4 = impl_PutInt.j1 (k + 8) c 4 := by simp only [impl_PutInt.l0]; rw [if_neg (by omega)]
        rw [this]
        simp only [impl_PutInt.j1]
        rw [w4, out _ _ 3 _ (by omega) (by omega) (by simp) s3, w3, out _ _ 2 _ (by omega) (by omega) (by simp) s2, w2, out _ _ 1 _ (by omega) (by omega) (by simp) s1, w1, out _ _ 0 c (by omega) (by omega) (by simp) s0, w0, fin]
        rfl
theorem spec_GetTlv_eq {l : List Int} (hB : B l) (hl : l.length ≤ 1099511627776) {a : Int} (ha : -9223372036854775808 ≤ a ∧ a ≤ 9223372036854775807) : spec_GetTlv.f l a = some (tlv4 l a) := by
  have b1 := hB.at_ (a + 1)
  have b2 := hB.at_ (a + 2)
  have b0 := hB.at_ a
  unfold tlv4 tlvAt
  by_cases h : 0 ≤ a ∧ a + 1 < l.length
  · rw [if_pos h]
    obtain ⟨h0, h1⟩ := h
    have w1 : wrap64 (a + 1) = a + 1 := w64 (by omega) (by omega)
    have w2 : wrap64 (a + 2) = a + 2 := w64 (by omega) (by omega)
    have w3 : wrap64 (a + 2 + 1) = a + 3 := by rw [w64 (by omega) (by omega)]; omega
    have v0 : wrap64 (rd l a) = rd l a := w64 (by omega) (by omega)
    have v1 : wrap64 (rd l (a + 1)) = rd l (a + 1) := w64 (by omega) (by omega)
    have v2 : wrap64 (rd l (a + 2)) = rd l (a + 2) := w64 (by omega) (by omega)
    have s2 : wrap64 ((l.length : Int) - (a + 2)) = l.length - (a + 2) := w64 (by omega) (by omega)
    have s3 : wrap64 ((l.length : Int) - (a + 3)) = l.length - (a + 3) := w64 (by omega) (by omega)
    have t2 : wrap64 (a + 2 + rd l (a + 1)) = a + 2 + rd l (a + 1) := w64 (by omega) (by omega)
    have t3 : wrap64 (a + 3 + rd l (a + 2)) = a + 3 + rd l (a + 2) := w64 (by omega) (by omega)
    unfold spec_GetTlv.f
    simp only [w1, w2, w3, v0, v1, v2, s2, s3, t2, t3, Option.bind_some, List.nil_append, List.length_nil, Nat.zero_add]
    rw [if_neg (by omega), if_neg (by omega), if_neg (by omega), if_pos (by omega), if_pos (by omega)]
    by_cases c : rd l (a + 1) < 128
    · rw [if_pos c, if_neg (by omega), if_neg (by omega)]
      by_cases c2 : a + 2 + rd l (a + 1) ≤ l.length
      · rw [if_neg (by omega), if_pos (by omega), if_pos (by omega), if_pos (by omega), if_pos (by omega), if_pos (by omega), if_pos (by rw [List.length_drop, List.length_take]; omega), if_pos c2]
      · rw [if_pos (by omega), if_neg c2]
    · rw [if_neg c, if_pos (by omega)]
      by_cases d : rd l (a + 1) = 129
      · rw [if_pos d]
        by_cases d2 : a + 2 ≥ (l.length : Int)
        · rw [if_pos d2, if_neg (by omega)]
        · rw [if_neg d2, if_pos (by omega), if_pos (by omega)]
          by_cases d3 : rd l (a + 2) < 128
          · rw [if_pos d3, if_neg (by omega)]
          · rw [if_neg d3]
            by_cases d4 : rd l (a + 2) > 250
            · rw [if_pos d4, if_neg (by omega)]
            · rw [if_neg d4]
              by_cases d5 : rd l (a + 2) > l.length - (a + 3)
              · rw [if_pos d5, if_neg (by omega)]
              · rw [if_neg d5, if_pos (by omega), if_pos (by omega), if_pos (by omega), if_pos (by omega), if_pos (by omega), if_pos (by rw [List.length_drop, List.length_take]; omega), if_pos (by omega)]
      · rw [if_neg d, if_neg (by omega)]
  · rw [if_neg h]
    unfold spec_GetTlv.f
    by_cases h0 : a < 0
    · rw [if_pos h0]
    · rw [if_neg h0]
      by_cases h1 : a ≥ (l.length : Int)
      · rw [if_pos h1]
      · rw [if_neg h1, if_pos (by rw [w64 (by omega) (by omega)]; omega)]
theorem impl_copyBytes_eq {l : List Int} (hl : l.length ≤ 1099511627776) : impl_copyBytes.f l = some l := by
  unfold impl_copyBytes.f
  rw [if_pos (by simp only [List.length_nil]; omega)]
  rfl
theorem impl_GetTlv_eq {l : List Int} (hB : B l) (hl : l.length ≤ 1099511627776) {a : Int} (ha : -9223372036854775808 ≤ a ∧ a ≤ 9223372036854775807) : impl_GetTlv.f l a = some (tlv4 l a) := by
  have b1 := hB.at_ (a + 1)
  have b2 := hB.at_ (a + 2)
  have b0 := hB.at_ a
  have z2 : wrap64 ((l.length : Int) - 2) = l.length - 2 := w64 (by omega) (by omega)
  unfold tlv4 tlvAt
  by_cases h : 0 ≤ a ∧ a + 1 < l.length
  · rw [if_pos h]
    obtain ⟨h0, h1⟩ := h
    have w1 : wrap64 (a + 1) = a + 1 := w64 (by omega) (by omega)
    have w2 : wrap64 (a + 2) = a + 2 := w64 (by omega) (by omega)
    have w3 : wrap64 (a + 2 + 1) = a + 3 := by rw [w64 (by omega) (by omega)]; omega
    have v0 : wrap64 (rd l a) = rd l a := w64 (by omega) (by omega)
    have v1 : wrap64 (rd l (a + 1)) = rd l (a + 1) := w64 (by omega) (by omega)
    have v2 : wrap64 (rd l (a + 2)) = rd l (a + 2) := w64 (by omega) (by omega)
    have s2 : wrap64 ((l.length : Int) - (a + 2)) = l.length - (a + 2) := w64 (by omega) (by omega)
    have s3 : wrap64 ((l.length : Int) - (a + 3)) = l.length - (a + 3) := w64 (by omega) (by omega)
    have t2 : wrap64 (a + 2 + rd l (a + 1)) = a + 2 + rd l (a + 1) := w64 (by omega) (by omega)
    have t3 : wrap64 (a + 3 + rd l (a + 2)) = a + 3 + rd l (a + 2) := w64 (by omega) (by omega)
    unfold impl_GetTlv.f
    simp only [z2, w1, w2, w3, v0, v1, v2, s2, s3, t2, t3]
    rw [if_neg (by omega), if_neg (by omega), if_pos (by omega), if_pos (by omega)]
    by_cases c : rd l (a + 1) < 128
    · rw [if_pos c, if_neg (by omega), if_neg (by omega)]
      by_cases c2 : a + 2 + rd l (a + 1) ≤ l.length
      · rw [if_neg (by omega), if_pos (by omega), if_pos (by omega), if_pos (by omega), if_pos (by omega), if_pos (by omega), if_pos c2, impl_copyBytes_eq (by rw [List.length_drop, List.length_take]; omega), Option.bind_some]
      · rw [if_pos (by omega), if_neg c2]
    · rw [if_neg c, if_pos (by omega)]
      by_cases d : rd l (a + 1) = 129
      · rw [if_pos d]
        by_cases d2 : a + 2 ≥ (l.length : Int)
        · rw [if_pos d2, if_neg (by omega)]
        · rw [if_neg d2, if_pos (by omega), if_pos (by omega)]
          by_cases d3 : rd l (a + 2) < 128
          · rw [if_pos d3, if_neg (by omega)]
          · rw [if_neg d3]
            by_cases d4 : rd l (a + 2) > 250
            · rw [if_pos d4, if_neg (by omega)]
            · rw [if_neg d4]
              by_cases d5 : rd l (a + 2) > l.length - (a + 3)
              · rw [if_pos d5, if_neg (by omega)]
              · rw [if_neg d5, if_pos (by omega), if_pos (by omega), if_pos (by omega), if_pos (by omega), if_pos (by omega), impl_copyBytes_eq (by rw [List.length_drop, List.length_take]; omega), Option.bind_some, if_pos (by omega)]
      · rw [if_neg d, if_neg (by omega)]
  · rw [if_neg h]
    unfold impl_GetTlv.f
    rw [z2]
    by_cases h0 : a < 0
    · rw [if_pos h0]
    · rw [if_neg h0, if_pos (by omega)]
theorem spec_l4Part_eq {l : List Int} (hB : B l) (hl : l.length ≤ 1099511627776) {a : Int} (ha : -9223372036854775808 ≤ a ∧ a ≤ 9223372036854775807) (bad : Bool) (tag : Int) : spec_l4Part.f l a bad tag = some (xPart l a bad tag) := by
  unfold spec_l4Part.f
  rw [spec_GetTlv_eq hB hl ha, Option.bind_some]
  unfold xPart tlv4
  cases bad with
  | true => simp
  | false =>
    cases tlvAt l a with
    | none => simp
    | some x => obtain ⟨t, b, n⟩ := x; by_cases h : t = tag <;> simp [h]
theorem impl_part_eq {l : List Int} (hB : B l) (hl : l.length ≤ 1099511627776) {a : Int} (ha : -9223372036854775808 ≤ a ∧ a ≤ 9223372036854775807) (bad : Bool) (tag : Int) : impl_parts_part.f l a bad tag = some (xPart l a bad tag) := by
  unfold impl_parts_part.f
  rw [impl_GetTlv_eq hB hl ha, Option.bind_some]
  unfold xPart tlv4
  cases bad with
  | true => simp
  | false =>
    cases tlvAt l a with
    | none => simp
    | some x => obtain ⟨t, b, n⟩ := x; by_cases h : t = tag <;> simp [h]
theorem spec_GetInt_l0 (b : List Int) (hB : B b) (hl : b.length ≤ 4) (d : Nat) : ∀ (k i : Nat) (n : Int), b.length - i = d → d + 20 ≤ k → i ≤ b.length → (∀ m : Nat, m ≤ d → -2147483648 ≤ ((b.drop i).take m).foldl more n ∧ ((b.drop i).take m).foldl more n ≤ 2147483647) →
    spec_GetInt.l0 k b n (i : Int) = some (if (putInt ((b.drop i).foldl more n)).length = b.length then ((b.drop i).foldl more n, true) else (0, false)) := by
  induction d with
  | zero =>
    intro k i n hd hk hi hr
    obtain ⟨k, rfl⟩ : ∃ m, k = m + 1 := ⟨k - 1, by omega⟩
    simp only [spec_GetInt.l0]
    rw [if_neg (by omega), spec_PutInt_eq _ (by omega), Option.bind_some, List.drop_of_length_le (by omega)]
    by_cases h : (putInt n).length = b.length
    · rw [if_pos (by omega)]; exact congrArg some (if_pos h).symm
    · rw [if_neg (by omega)]; exact congrArg some (if_neg h).symm
  | succ d ih =>
    intro k i n hd hk hi hr
    obtain ⟨k, rfl⟩ : ∃ m, k = m + 1 := ⟨k - 1, by omega⟩
    have hlt : i < b.length := by omega
    have hx := hB.at_ (i : Int)
    simp only [spec_GetInt.l0]
    have e : b.drop i = rd b (i : Int) :: b.drop (i + 1) := by
      rw [List.drop_eq_getElem_cons hlt]
      congr 1
      rw [rd_nat, List.getD_eq_getElem?_getD, List.getElem?_eq_getElem hlt]; rfl
    have h1 := hr 1 (by omega)
    rw [e] at h1
    simp only [List.take_succ_cons, List.take_zero, List.foldl_cons, List.foldl_nil, more] at h1
    rw [if_pos (by omega), if_pos (by omega), or_bytes _ _ hx.1 hx.2, w64 (n := (i : Int) + 1) (by omega) (by omega), w64 (by omega) (by omega), e, List.foldl_cons]
    have := ih k (i + 1) (n * 256 + rd b (i : Int)) (by omega) (by omega) (by omega) (fun m hm => by
      have := hr (m + 1) (by omega)
      rw [e, List.take_succ_cons, List.foldl_cons] at this
      exact this)
    exact this
theorem impl_GetInt_l0 (b c : List Int) (hB : B c) (hl : c.length ≤ 4) (d : Nat) : ∀ (k i : Nat) (n : Int), c.length - i = d → d + 30 ≤ k → i ≤ c.length → (∀ m : Nat, m ≤ d → -2147483648 ≤ ((c.drop i).take m).foldl more n ∧ ((c.drop i).take m).foldl more n ≤ 2147483647) →
    impl_GetInt.l0 k b n c (c.length : Int) (i : Int) = some (if (putInt ((c.drop i).foldl more n)).length = b.length then ((c.drop i).foldl more n, true) else (0, false)) := by
  induction d with
  | zero =>
    intro k i n hd hk hi hr
    obtain ⟨k, rfl⟩ : ∃ m, k = m + 1 := ⟨k - 1, by omega⟩
    simp only [impl_GetInt.l0]
    rw [if_neg (by omega), impl_PutInt_eq _ (by omega), Option.bind_some, List.drop_of_length_le (by omega)]
    by_cases h : (putInt n).length = b.length
    · rw [if_pos (by omega)]; exact congrArg some (if_pos h).symm
    · rw [if_neg (by omega)]; exact congrArg some (if_neg h).symm
  | succ d ih =>
    intro k i n hd hk hi hr
    obtain ⟨k, rfl⟩ : ∃ m, k = m + 1 := ⟨k - 1, by omega⟩
    have hlt : i < c.length := by omega
    have hx := hB.at_ (i : Int)
    simp only [impl_GetInt.l0]
    have e : c.drop i = rd c (i : Int) :: c.drop (i + 1) := by
      rw [List.drop_eq_getElem_cons hlt]
      congr 1
      rw [rd_nat, List.getD_eq_getElem?_getD, List.getElem?_eq_getElem hlt]; rfl
    have h1 := hr 1 (by omega)
    rw [e] at h1
    simp only [List.take_succ_cons, List.take_zero, List.foldl_cons, List.foldl_nil, more] at h1
    rw [if_pos (by omega), if_pos (by omega), if_pos (by omega), or_bytes _ _ hx.1 hx.2, w64 (n := (i : Int) + 1) (by omega) (by omega), w64 (by omega) (by omega), e, List.foldl_cons]
    have := ih k (i + 1) (n * 256 + rd c (i : Int)) (by omega) (by omega) (by omega) (fun m hm => by
      have := hr (m + 1) (by omega)
      rw [e, List.take_succ_cons, List.foldl_cons] at this
      exact this)
    exact this
/-- Behind some intBytes a number is still small. -/
theorem fold_small (l : List Int) (hB : B l) (x : Int) (hx : -128 ≤ x ∧ x ≤ 127) (hl : l.length ≤ 3) (m : Nat) : -2147483648 ≤ (l.take m).foldl more x ∧ (l.take m).foldl more x ≤ 2147483647 := by
  have hl2 : (l.take m).length ≤ 3 := by rw [List.length_take]; omega
  have hB2 := hB.take m
  generalize l.take m = t at *
  match t, hl2, hB2 with
  | [], _, _ => simp only [List.foldl_nil]; omega
  | [a], _, h =>
    have ha := h a (by simp)
    simp only [List.foldl_cons, List.foldl_nil, more]; omega
  | [a, b], _, h =>
    have ha := h a (by simp)
    have hb := h b (by simp)
    simp only [List.foldl_cons, List.foldl_nil, more]; omega
  | [a, b, c], _, h =>
    have ha := h a (by simp)
    have hb := h b (by simp)
    have hc := h c (by simp)
    simp only [List.foldl_cons, List.foldl_nil, more]; omega
  | a :: b :: c :: d :: t, h, _ => simp at h
theorem spec_GetInt_eq {b : List Int} (hB : B b) (hl : b.length ≤ 1099511627776) {k : Nat} (hk : 40 ≤ k) : spec_GetInt.f k b = some (getInt b) := by
  unfold spec_GetInt.f getInt
  rw [spec_l1In_eq, Option.bind_some]
  by_cases h : 1 ≤ b.length ∧ b.length ≤ 4
  · rw [if_pos (by simp; omega), if_pos (by omega), if_pos h]
    obtain ⟨x, l, rfl⟩ : ∃ x l, b = x :: l := by
      cases b with
      | nil => simp at h
      | cons x l => exact ⟨x, l, rfl⟩
    have hx := hB x (by simp)
    have hBl : B l := fun y hy => hB y (List.mem_cons_of_mem _ hy)
    have hll : l.length ≤ 3 := by have := h.2; simp at this; omega
    obtain ⟨k, rfl⟩ : ∃ m, k = m + 1 := ⟨k - 1, by omega⟩
    have e0 : rd (x :: l) 0 = x := rd_cons_zero x l
    have key : spec_GetInt.l0 k (x :: l) (s8 x) 1 = some (if (putInt (l.foldl more (s8 x))).length = (x :: l).length then (l.foldl more (s8 x), true) else (0, false)) := by
      have := spec_GetInt_l0 (x :: l) hB h.2 l.length k 1 (s8 x) (by simp) (by omega) (by simp) (fun m hm => by
        simp only [List.drop_succ_cons, List.drop_zero]
        exact fold_small l hBl (s8 x) (by unfold s8; split <;> omega) hll m)
      simpa using this
    rw [e0, w64 (n := x) (by omega) (by omega)]
    unfold xVal
    simp only
    by_cases c : x > 127
    · rw [if_pos c, w64 (by omega) (by omega)]
      simp only [spec_GetInt.j0]
      have : s8 x = x - 256 := by unfold s8; rw [if_pos c]
      rw [← this]; exact key
    · rw [if_neg c]
      simp only [spec_GetInt.j0]
      have : s8 x = x := by unfold s8; rw [if_neg c]
      rw [this] at key ⊢; exact key
  · rw [if_neg (by simp; omega), if_neg h]
theorem i8_s8 {x : Int} (h0 : 0 ≤ x) (h1 : x ≤ 255) : IntKind.i8.wrap x = s8 x := by
  unfold s8
  simp only [IntKind.wrap, IntKind.bits, IntKind.signed, Bool.true_and]
  by_cases c : x > 127
  · rw [if_pos c, if_pos (by simp only [decide_eq_true_eq, ge_iff_le]; omega)]; omega
  · rw [if_neg c, if_neg (by simp only [decide_eq_true_eq, ge_iff_le]; omega)]; omega
theorem impl_GetInt_eq {b : List Int} (hB : B b) (hl : b.length ≤ 1099511627776) {k : Nat} (hk : 50 ≤ k) : impl_GetInt.f k b = some (getInt b) := by
  unfold impl_GetInt.f getInt
  rw [impl_in_eq, Option.bind_some]
  by_cases h : 1 ≤ b.length ∧ b.length ≤ 4
  · rw [if_pos (by simp; omega), if_pos (by omega), if_pos (by omega), if_pos h]
    obtain ⟨x, l, rfl⟩ : ∃ x l, b = x :: l := by
      cases b with
      | nil => simp at h
      | cons x l => exact ⟨x, l, rfl⟩
    have hx := hB x (by simp)
    have hBl : B l := fun y hy => hB y (List.mem_cons_of_mem _ hy)
    have hll : l.length ≤ 3 := by have := h.2; simp at this; omega
    rw [rd_cons_zero, i8_s8 hx.1 hx.2, w64 (by unfold s8; split <;> omega) (by unfold s8; split <;> omega)]
    have := impl_GetInt_l0 (x :: l) l hBl (by omega) l.length k 0 (s8 x) (by simp) (by omega) (by simp) (fun m hm => by
        simp only [List.drop_zero]
        exact fold_small l hBl (s8 x) (by unfold s8; split <;> omega) hll m)
    exact this
  · rw [if_neg (by simp; omega), if_neg h]
theorem spec_l4Num_eq {l : List Int} (hB : B l) (hl : l.length ≤ 1099511627776) {a : Int} (h0 : 0 ≤ a) (h1 : a ≤ l.length) (bad : Bool) {k : Nat} (hk : 50 ≤ k) : spec_l4Num.f k l a bad = some (xNum l a bad 2) := by
  obtain ⟨p1, p2, _⟩ := xPart_range hB h0 h1 bad 2
  unfold spec_l4Num.f xNum
  rw [spec_l4Part_eq hB hl ⟨by omega, by omega⟩, Option.bind_some, spec_GetInt_eq p1 (by omega) (by omega), Option.bind_some]
  cases (xPart l a bad 2).2.2 <;> simp
theorem impl_num_eq {l : List Int} (hB : B l) (hl : l.length ≤ 1099511627776) {a : Int} (h0 : 0 ≤ a) (h1 : a ≤ l.length) (bad : Bool) (tag : Int) {k : Nat} (hk : 50 ≤ k) : impl_parts_num.f k l a bad tag = some (xNum l a bad tag) := by
  obtain ⟨p1, p2, _⟩ := xPart_range hB h0 h1 bad tag
  unfold impl_parts_num.f xNum
  rw [impl_part_eq hB hl ⟨by omega, by omega⟩, Option.bind_some, impl_GetInt_eq p1 (by omega) (by omega), Option.bind_some]
  cases (xPart l a bad tag).2.2 <;> simp
theorem spec_VecOk_eq (r c h b p : Int) : spec_VecOk.f r c h b p = some (vecOk r c h b p) := by
  unfold spec_VecOk.f vecOk
  simp only [spec_l1In_eq, Option.bind_some, decide_eq_true_eq]
  by_cases h1 : 1 ≤ r ∧ r ≤ 99
  · rw [if_pos h1]
    by_cases h2 : 0 ≤ c ∧ c ≤ 100000
    · rw [if_pos h2]
      by_cases h3 : 0 ≤ h ∧ h ≤ 10
      · rw [if_pos h3]
        by_cases h4 : 1 ≤ b ∧ b ≤ 99
        · rw [if_pos h4]; congr 1; apply decide_eq_decide.2; omega
        · rw [if_neg h4]; congr 1; symm; apply decide_eq_false; omega
      · rw [if_neg h3]; congr 1; symm; apply decide_eq_false; omega
    · rw [if_neg h2]; congr 1; symm; apply decide_eq_false; omega
  · rw [if_neg h1]; congr 1; symm; apply decide_eq_false; omega
theorem impl_VecOk_eq (r c h b p : Int) : impl_VecOk.f r c h b p = some (vecOk r c h b p) := by
  unfold impl_VecOk.f vecOk
  simp only [impl_in_eq, Option.bind_some, decide_eq_true_eq]
  by_cases h1 : 1 ≤ r ∧ r ≤ 99
  · rw [if_pos h1]
    by_cases h2 : 0 ≤ c ∧ c ≤ 100000
    · rw [if_pos h2]
      by_cases h3 : 0 ≤ h ∧ h ≤ 10
      · rw [if_pos h3]
        by_cases h4 : 1 ≤ b ∧ b ≤ 99
        · rw [if_pos h4]; congr 1; apply decide_eq_decide.2; omega
        · rw [if_neg h4]; congr 1; symm; apply decide_eq_false; omega
      · rw [if_neg h3]; congr 1; symm; apply decide_eq_false; omega
    · rw [if_neg h2]; congr 1; symm; apply decide_eq_false; omega
  · rw [if_neg h1]; congr 1; symm; apply decide_eq_false; omega
theorem spec_GetVec_eq {l : List Int} (hB : B l) (hl : l.length ≤ 1099511627776) {k : Nat} (hk : 50 ≤ k) : spec_GetVec.f k l = some (getVec l) := by
  have r1 := xNum_range hB (a := 0) (by omega) (by omega) false 2
  unfold spec_GetVec.f getVec
  simp only [nextNum]
  rw [spec_l4Num_eq hB hl (by omega) (by omega) _ hk, Option.bind_some]
  generalize xNum l 0 false 2 = a at *
  have r2 := xNum_range hB r1.1 r1.2 a.2.2 2
  rw [spec_l4Num_eq hB hl r1.1 r1.2 _ hk, Option.bind_some]
  generalize xNum l a.2.1 a.2.2 2 = b at *
  have r3 := xNum_range hB r2.1 r2.2 b.2.2 2
  rw [spec_l4Num_eq hB hl r2.1 r2.2 _ hk, Option.bind_some]
  generalize xNum l b.2.1 b.2.2 2 = c at *
  have r4 := xNum_range hB r3.1 r3.2 c.2.2 2
  rw [spec_l4Num_eq hB hl r3.1 r3.2 _ hk, Option.bind_some]
  generalize xNum l c.2.1 c.2.2 2 = d at *
  rw [spec_l4Num_eq hB hl r4.1 r4.2 _ hk, Option.bind_some]
  generalize xNum l d.2.1 d.2.2 2 = e at *
  simp only [spec_VecOk_eq, Option.bind_some]
  generalize vecOk a.1 b.1 c.1 d.1 e.1 = v
  cases e.2.2 <;> cases v <;> by_cases h : e.2.1 = (l.length : Int) <;> first | (simp [h]; done) | (simp [h, beq_eq_false_iff_ne.2 h]; done)
theorem impl_GetVec_eq {l : List Int} (hB : B l) (hl : l.length ≤ 1099511627776) {k : Nat} (hk : 50 ≤ k) : impl_GetVec.f k l = some (getVec l) := by
  have r1 := xNum_range hB (a := 0) (by omega) (by omega) false 2
  unfold impl_GetVec.f getVec impl_parts_done.f
  simp only [nextNum]
  rw [impl_num_eq hB hl (by omega) (by omega) _ _ hk, Option.bind_some]
  generalize xNum l 0 false 2 = a at *
  have r2 := xNum_range hB r1.1 r1.2 a.2.2 2
  rw [impl_num_eq hB hl r1.1 r1.2 _ _ hk, Option.bind_some]
  generalize xNum l a.2.1 a.2.2 2 = b at *
  have r3 := xNum_range hB r2.1 r2.2 b.2.2 2
  rw [impl_num_eq hB hl r2.1 r2.2 _ _ hk, Option.bind_some]
  generalize xNum l b.2.1 b.2.2 2 = c at *
  have r4 := xNum_range hB r3.1 r3.2 c.2.2 2
  rw [impl_num_eq hB hl r3.1 r3.2 _ _ hk, Option.bind_some]
  generalize xNum l c.2.1 c.2.2 2 = d at *
  rw [impl_num_eq hB hl r4.1 r4.2 _ _ hk, Option.bind_some]
  generalize xNum l d.2.1 d.2.2 2 = e at *
  simp only [impl_VecOk_eq, Option.bind_some]
  generalize vecOk a.1 b.1 c.1 d.1 e.1 = v
  cases e.2.2 <;> cases v <;> by_cases h : e.2.1 = (l.length : Int) <;> first | (simp [h]; done) | (simp [h, beq_eq_false_iff_ne.2 h]; done)
theorem impl_tlv_eq (t : Int) (b : List Int) (hb : b.length ≤ 1099511627776) {k : Nat} (hk : 1 ≤ k) : impl_tlv.f k t b = some (if 0 ≤ t ∧ t ≤ 255 ∧ b.length ≤ 250 then (tlv t b, true) else ([], false)) := by
  obtain ⟨k, rfl⟩ : ∃ m, k = m + 1 := ⟨k - 1, by omega⟩
  unfold impl_tlv.f
  rw [impl_in_eq, Option.bind_some]
  by_cases h1 : 0 ≤ t ∧ t ≤ 255
  · rw [if_pos (by simpa using h1)]
    simp only [impl_tlv.j0, Option.bind_some, List.length_cons, List.length_nil, List.length_append]
    by_cases h2 : (b.length : Int) > 250
    · rw [if_pos (by simpa using h2), if_neg (by omega)]
    · rw [if_neg (by simpa using h2), if_pos (show 0 ≤ t ∧ t ≤ 255 ∧ b.length ≤ 250 by omega)]
      unfold tlv
      by_cases h3 : (b.length : Int) ≥ 128
      · rw [if_pos h3, if_pos (by omega), if_pos (by omega), if_pos (by omega), if_pos (by omega), show (b.length : Int) % 256 = b.length by omega]
        rfl
      · rw [if_neg h3, if_pos (by omega), if_pos (by omega), if_neg (by omega), show (b.length : Int) % 256 = b.length by omega]
        rfl
  · rw [if_neg (by simp; omega), if_neg (by omega)]
    simp only [impl_tlv.j0]
    rfl

theorem impl_copyBytes_eq' {l : List Int} (hl : l.length ≤ 1099511627776) : impl_copyBytes.f l = some l := by
  unfold impl_copyBytes.f
  rw [if_pos (by simp only [List.length_nil]; omega)]
  rfl
theorem impl_PutTlv_eq {p : List Int} (t : Int) {b : List Int} (hp : p.length ≤ 1099511627776) (hb : b.length ≤ 1099511627776) {k : Nat} (hk : 1 ≤ k) : impl_PutTlv.f k p t b = some (putTlv p t b) := by
  unfold impl_PutTlv.f putTlv
  rw [impl_tlv_eq t b hb hk, Option.bind_some, impl_copyBytes_eq' hp, Option.bind_some]
  by_cases h : 0 ≤ t ∧ t ≤ 255 ∧ b.length ≤ 250
  · rw [if_pos h, if_pos h]
    have := tlv_len t b
    rw [if_pos (by simp only; split at this <;> omega)]
  · rw [if_neg h, if_neg h]
    rw [if_pos (by simp only [List.length_nil]; omega), List.append_nil]
theorem impl_addNum_eq {p : List Int} (t n : Int) (hp : p.length ≤ 1099511627776) {k : Nat} (hk : 20 ≤ k) : impl_addNum.f k p t n = some (putTlv p t (putInt n)) := by
  unfold impl_addNum.f
  rw [impl_PutInt_eq n hk, Option.bind_some, impl_PutTlv_eq t hp (by have := putInt_len n; omega) (by omega)]
  rfl
/-! ### draws: what they answer is in range, whatever was drawn from -/
theorem and255 (x : Int) : 0 ≤ Go.bits .and .i64 x 255 ∧ Go.bits .and .i64 x 255 ≤ 255 := by
  simp only [Go.bits]
  have h : (BitVec.ofInt 64 x &&& BitVec.ofInt 64 255).toNat ≤ 255 := by
    rw [BitVec.toNat_and, show (BitVec.ofInt 64 255).toNat = 255 by decide]
    exact Nat.and_le_right
  show 0 ≤ IntKind.i64.wrap (((BitVec.ofInt 64 x &&& BitVec.ofInt 64 255).toNat : Int)) ∧ IntKind.i64.wrap (((BitVec.ofInt 64 x &&& BitVec.ofInt 64 255).toNat : Int)) ≤ 255
  rw [IntKind.wrap_i64]
  omega
/-- A draw that went well: the value in range, the place not behind the end. -/
def Drawn (l : List Int) (lo hi : Int) (o : Option (Int × Int × Int)) : Prop := ∃ v i s, o = some (v, i, s) ∧ lo ≤ v ∧ v ≤ hi ∧ 0 ≤ i ∧ i ≤ l.length
theorem spec_l1Byte_eq {l : List Int} (hl : l.length ≤ 1099511627776) {i : Int} (h0 : 0 ≤ i) (h1 : i ≤ l.length) (s : Int) : Drawn l 0 255 (spec_l1Byte.f l i s) := by
  unfold spec_l1Byte.f
  by_cases h : i < (l.length : Int)
  · rw [if_pos h, if_pos h0, w64 (n := i + 1) (by omega) (by omega)]
    exact ⟨_, _, _, rfl, (and255 _).1, (and255 _).2, by omega, by omega⟩
  · rw [if_neg h]
    exact ⟨_, _, _, rfl, (and255 _).1, (and255 _).2, h0, h1⟩
theorem spec_l1New_l0 (l : List Int) (hl : l.length ≤ 1099511627776) (d : Nat) : ∀ (k i : Nat) (s : Int), l.length - i = d → d < k → ∃ s', spec_l1New.l0 k l s (i : Int) = some (l, 0, s') := by
  induction d with
  | zero =>
    intro k i s hd hk
    obtain ⟨k, rfl⟩ : ∃ m, k = m + 1 := ⟨k - 1, by omega⟩
    simp only [spec_l1New.l0]
    rw [if_neg (by omega)]
    exact ⟨_, rfl⟩
  | succ d ih =>
    intro k i s hd hk
    obtain ⟨k, rfl⟩ : ∃ m, k = m + 1 := ⟨k - 1, by omega⟩
    have nx := fun s => ih k (i + 1) s (by omega) (by omega)
    rw [show ((i + 1 : Nat) : Int) = (i : Int) + 1 by omega] at nx
    simp only [spec_l1New.l0]
    rw [if_pos (by omega), w64 (n := (i : Int) + 1) (by omega) (by omega)]
    by_cases h : (i : Int) < 4000
    · rw [if_pos h, if_pos (by omega)]; exact nx _
    · rw [if_neg h]; exact ⟨_, rfl⟩
theorem spec_l1New_eq {l : List Int} (hl : l.length ≤ 1099511627776) {k : Nat} (hk : l.length < k) : ∃ s, spec_l1New.f k l = some (l, 0, s) := by
  unfold spec_l1New.f
  exact spec_l1New_l0 l hl l.length k 0 _ (by omega) hk
theorem tmod_range {x n : Int} (hx : 0 ≤ x) (hn : 0 < n) : 0 ≤ Int.tmod x n ∧ Int.tmod x n ≤ n - 1 := by
  rw [Int.tmod_eq_emod_of_nonneg hx]
  have := Int.emod_nonneg x (show n ≠ 0 by omega)
  have := Int.emod_lt_of_pos x hn
  omega
theorem spec_l1Below_eq {l : List Int} (hl : l.length ≤ 1099511627776) {i : Int} (h0 : 0 ≤ i) (h1 : i ≤ l.length) (s : Int) {n : Int} (hn : 0 < n) : Drawn l 0 (n - 1) (spec_l1Below.f l i s n) := by
  unfold spec_l1Below.f
  rw [if_neg (by omega)]
  obtain ⟨v, i, s, e, v0, v1, i0, i1⟩ := spec_l1Byte_eq hl h0 h1 s
  have nz : ¬ n = 0 := by omega
  simp only [e, Option.bind_some, if_neg nz]
  by_cases h : n ≤ 256
  · rw [if_pos h]
    exact ⟨_, _, _, rfl, (tmod_range v0 hn).1, (tmod_range v0 hn).2, i0, i1⟩
  · rw [if_neg h]
    obtain ⟨v2, i2, s2, e2, v20, v21, i20, i21⟩ := spec_l1Byte_eq hl i0 i1 s
    simp only [e2, Option.bind_some]
    obtain ⟨v3, i3, s3, e3, v30, v31, i30, i31⟩ := spec_l1Byte_eq hl i20 i21 s2
    simp only [e3, Option.bind_some]
    have hp : 0 ≤ wrap64 (wrap64 (wrap64 (v * 65536) + wrap64 (v2 * 256)) + v3) := by
      rw [w64 (n := v * 65536) (by omega) (by omega), w64 (n := v2 * 256) (by omega) (by omega), w64 (n := v * 65536 + v2 * 256) (by omega) (by omega), w64 (by omega) (by omega)]
      omega
    exact ⟨_, _, _, rfl, (tmod_range hp hn).1, (tmod_range hp hn).2, i30, i31⟩
theorem spec_l1Int_eq {l : List Int} (hl : l.length ≤ 1099511627776) {i : Int} (h0 : 0 ≤ i) (h1 : i ≤ l.length) (s : Int) {c : List Int} (hc : 0 < c.length) : ∃ j i' s', spec_l1Int.f l i s c = some (rd c (j : Nat), i', s') ∧ j < c.length ∧ 0 ≤ i' ∧ i' ≤ l.length := by
  unfold spec_l1Int.f
  obtain ⟨v, i, s, e, v0, v1, i0, i1⟩ := spec_l1Below_eq hl h0 h1 s (n := (c.length : Int)) (by omega)
  simp only [e, Option.bind_some]
  rw [if_pos v0, if_pos (by omega)]
  obtain ⟨j, rfl⟩ := Int.eq_ofNat_of_zero_le v0
  exact ⟨j, _, _, rfl, by omega, i0, i1⟩
theorem spec_PutTlv_eq {p : List Int} (t : Int) {b : List Int} (hp : p.length ≤ 1099511627776) (hb : b.length ≤ 1099511627776) {k : Nat} (hk : 1 ≤ k) : spec_PutTlv.f k p t b = some (putTlv p t b) := by
  obtain ⟨k, rfl⟩ : ∃ m, k = m + 1 := ⟨k - 1, by omega⟩
  unfold spec_PutTlv.f putTlv
  rw [Option.bind_some, if_pos (by simp only [List.length_nil]; omega), Option.bind_some, spec_l1In_eq, Option.bind_some, List.nil_append]
  by_cases h1 : 0 ≤ t ∧ t ≤ 255
  · rw [if_pos (decide_eq_true h1)]
    simp only [spec_PutTlv.j0]
    by_cases h2 : (b.length : Int) > 250
    · rw [if_pos (decide_eq_true h2), if_neg (by omega)]
    · rw [if_neg (by simpa using h2), if_pos (by omega), Option.bind_some, if_pos (show 0 ≤ t ∧ t ≤ 255 ∧ b.length ≤ 250 by omega)]
      unfold tlv
      by_cases h3 : (b.length : Int) > 127
      · rw [if_pos h3, if_pos (show 128 ≤ b.length by omega), if_pos (by simp only [List.length_append, List.length_cons, List.length_nil]; omega), Option.bind_some, if_pos (by simp only [List.length_append, List.length_cons, List.length_nil]; omega), Option.bind_some, if_pos (by simp only [List.length_append, List.length_cons, List.length_nil]; omega), show (b.length : Int) % 256 = b.length by omega]
        simp
      · rw [if_neg h3, if_neg (show ¬ 128 ≤ b.length by omega), if_pos (by simp only [List.length_append, List.length_cons, List.length_nil]; omega), Option.bind_some, if_pos (by simp only [List.length_append, List.length_cons, List.length_nil]; omega), show (b.length : Int) % 256 = b.length by omega]
        simp
  · rw [if_neg (by simpa using h1), if_neg (by omega)]
    simp only [spec_PutTlv.j0]
    rfl
theorem putTlv_num (p : List Int) (v : Int) : putTlv p 2 (putInt v) = p ++ tlv 2 (putInt v) := by
  have := putInt_len v
  unfold putTlv; rw [if_pos (by omega)]
theorem spec_PutVec_eq (r c h b p : Int) {k : Nat} (hk : 20 ≤ k) : spec_PutVec.f k r c h b p = some (putVec r c h b p) := by
  unfold spec_PutVec.f putVec
  rw [spec_VecOk_eq, Option.bind_some]
  have i1 := putInt_len r
  have i2 := putInt_len c
  have i3 := putInt_len h
  have i4 := putInt_len b
  have i5 := putInt_len p
  have t1 := putInt_tlv_len 2 r
  have t2 := putInt_tlv_len 2 c
  have t3 := putInt_tlv_len 2 h
  have t4 := putInt_tlv_len 2 b
  have t5 := putInt_tlv_len 2 p
  cases vecOk r c h b p with
  | false => rw [if_neg (by simp)]; rfl
  | true =>
    rw [if_pos rfl, spec_PutInt_eq r (by omega), Option.bind_some, spec_PutTlv_eq 2 (by simp) (by omega) (by omega), Option.bind_some, putTlv_num, spec_PutInt_eq c (by omega), Option.bind_some, spec_PutTlv_eq 2 (by simp only [List.length_append, List.length_nil]; omega) (by omega) (by omega), Option.bind_some, putTlv_num, spec_PutInt_eq h (by omega), Option.bind_some, spec_PutTlv_eq 2 (by simp only [List.length_append, List.length_nil]; omega) (by omega) (by omega), Option.bind_some, putTlv_num, spec_PutInt_eq b (by omega), Option.bind_some, spec_PutTlv_eq 2 (by simp only [List.length_append, List.length_nil]; omega) (by omega) (by omega), Option.bind_some, putTlv_num, spec_PutInt_eq p (by omega), Option.bind_some, spec_PutTlv_eq 2 (by simp only [List.length_append, List.length_nil]; omega) (by omega) (by omega), Option.bind_some, putTlv_num]
    simp [vecBytes]
theorem impl_PutVec_eq (r c h b p : Int) {k : Nat} (hk : 40 ≤ k) : impl_PutVec.f k r c h b p = some (putVec r c h b p) := by
  unfold impl_PutVec.f putVec
  rw [impl_VecOk_eq, Option.bind_some]
  have i1 := putInt_len r
  have i2 := putInt_len c
  have i3 := putInt_len h
  have i4 := putInt_len b
  have i5 := putInt_len p
  have t1 := putInt_tlv_len 2 r
  have t2 := putInt_tlv_len 2 c
  have t3 := putInt_tlv_len 2 h
  have t4 := putInt_tlv_len 2 b
  have t5 := putInt_tlv_len 2 p
  cases vecOk r c h b p with
  | false => rw [if_neg (by simp)]; rfl
  | true =>
    rw [if_pos rfl, Option.bind_some]
    have step : ∀ (k : Nat) (x : List Int) (i v : Int), 20 ≤ k → 0 ≤ i → i < 5 → x.length ≤ 1000 → rd [r, c, h, b, p] i = v → impl_PutVec.l0 (k + 1) x [r, c, h, b, p] (([r, c, h, b, p] : List Int).length : Int) i = impl_PutVec.l0 k (x ++ tlv 2 (putInt v)) [r, c, h, b, p] (([r, c, h, b, p] : List Int).length : Int) (i + 1) := by
      intro k x i v hk h0 h1 hx hv
      have := putInt_len v
      simp only [impl_PutVec.l0]
      rw [if_pos (show i < (([r, c, h, b, p] : List Int).length : Int) by simp only [List.length_cons, List.length_nil]; omega), if_pos h0, if_pos (show i < (([r, c, h, b, p] : List Int).length : Int) by simp only [List.length_cons, List.length_nil]; omega), hv, impl_addNum_eq 2 v (by omega) hk, Option.bind_some, w64 (n := i + 1) (by omega) (by omega)]
      unfold putTlv; rw [if_pos (by omega)]
    obtain ⟨k, rfl⟩ : ∃ m, k = m + 20 + 1 + 1 + 1 + 1 + 1 + 1 := ⟨k - 26, by omega⟩
    rw [step _ _ _ r (by omega) (by omega) (by omega) (by simp) rfl, step _ _ _ c (by omega) (by omega) (by omega) (by simp only [List.length_append, List.length_nil]; omega) rfl, step _ _ _ h (by omega) (by omega) (by omega) (by simp only [List.length_append, List.length_nil]; omega) rfl, step _ _ _ b (by omega) (by omega) (by omega) (by simp only [List.length_append, List.length_nil]; omega) rfl, step _ _ _ p (by omega) (by omega) (by omega) (by simp only [List.length_append, List.length_nil]; omega) rfl]
    simp only [impl_PutVec.l0]
    rw [if_neg (by simp)]
    simp [vecBytes]
theorem sameBytes_l0 (l : List Int) (hn : l.length ≤ 1099511627776) (d : Nat) : ∀ (k i : Nat), l.length - i = d → d < k → laws_sameBytes.l0 k l l (i : Int) = some true := by
  induction d with
  | zero =>
    intro k i hd hk
    obtain ⟨k, rfl⟩ : ∃ m, k = m + 1 := ⟨k - 1, by omega⟩
    simp only [laws_sameBytes.l0]
    rw [if_neg (by omega)]
  | succ d ih =>
    intro k i hd hk
    obtain ⟨k, rfl⟩ : ∃ m, k = m + 1 := ⟨k - 1, by omega⟩
    have nx := ih k (i + 1) (by omega) (by omega)
    rw [show ((i + 1 : Nat) : Int) = (i : Int) + 1 by omega] at nx
    simp only [laws_sameBytes.l0]
    rw [if_pos (by omega), if_pos (by omega), if_pos (by omega), w64 (by omega) (by omega), nx, if_pos trivial]
theorem sameBytes_self {l : List Int} (hn : l.length ≤ 1099511627776) {k : Nat} (hk : l.length < k) : laws_sameBytes.f k l l = some true := by
  unfold laws_sameBytes.f
  rw [if_pos rfl]
  exact sameBytes_l0 l hn l.length k 0 (by omega) hk
theorem spec_l1Bend_eq {b : List Int} (hb : b.length ≤ 1099511627776) {i : Int} (h0 : 0 ≤ i) (h1 : i ≤ b.length) (s : Int) {l : List Int} (hl : l.length ≤ 1099511627776) (hB : B l) : ∃ l' i' s', spec_l1Bend.f b i s l = some (l', i', s') ∧ B l' ∧ l'.length ≤ l.length + 1 ∧ 0 ≤ i' ∧ i' ≤ b.length := by
  unfold spec_l1Bend.f
  by_cases c : (l.length : Int) = 0
  · rw [if_pos c]; exact ⟨_, _, _, rfl, hB, by omega, h0, h1⟩
  · rw [if_neg c]
    obtain ⟨v, i, s, e, v0, v1, i0, i1⟩ := spec_l1Below_eq hb h0 h1 s (n := 5) (by omega)
    simp only [e, Option.bind_some]
    by_cases c0 : v = 0
    · rw [if_pos c0]
      obtain ⟨v, i, s, e, v0, v1, i0, i1⟩ := spec_l1Below_eq hb i0 i1 s (n := (l.length : Int)) (by omega)
      simp only [e, Option.bind_some]
      obtain ⟨j, i, s, e, hj, i0, i1⟩ := spec_l1Int_eq hb i0 i1 s (c := [0, 1, 2, 4, 5, 6, 48, 127, 128, 129, 160, 255]) (by simp)
      simp only [e, Option.bind_some]
      rw [if_pos v0, if_pos (by omega)]
      refine ⟨_, _, _, rfl, fun x hx => ?_, by rw [List.length_set]; omega, i0, i1⟩
      rcases List.mem_or_eq_of_mem_set hx with hx | hx
      · exact hB x hx
      · rw [hx]; omega
    · rw [if_neg c0]
      by_cases c1 : v = 1
      · rw [if_pos c1, if_pos (by omega)]
        exact ⟨_, _, _, rfl, hB.app (B.one (by omega) (by omega)), by simp, i0, i1⟩
      · rw [if_neg c1]
        by_cases c2 : v = 2
        · rw [if_pos c2]
          obtain ⟨v, i, s, e, v0, v1, i0, i1⟩ := spec_l1Below_eq hb i0 i1 s (n := (l.length : Int)) (by omega)
          simp only [e, Option.bind_some]
          rw [if_pos v0, if_pos (by omega)]
          exact ⟨_, _, _, rfl, hB.take _, by rw [List.length_take]; omega, i0, i1⟩
        · rw [if_neg c2]
          exact ⟨_, _, _, rfl, hB, by omega, i0, i1⟩
theorem spec_l7Draw_eq {l : List Int} (hl : l.length ≤ 1099511627776) {i : Int} (h0 : 0 ≤ i) (h1 : i ≤ l.length) (s : Int) : ∃ r c h b p i' s', spec_l7Draw.f l i s = some (r, c, h, b, p, i', s') ∧ 0 ≤ i' ∧ i' ≤ l.length := by
  unfold spec_l7Draw.f
  obtain ⟨v, i, s, e, v0, v1, i0, i1⟩ := spec_l1Below_eq hl h0 h1 s (n := 5) (by omega)
  simp only [e, Option.bind_some]
  obtain ⟨j, i, s, e, hj, i0, i1⟩ := spec_l1Int_eq hl i0 i1 s (c := [0, 1, 2, 5, 10, 100]) (by simp)
  simp only [e, Option.bind_some]
  obtain ⟨j, i, s, e, hj, i0, i1⟩ := spec_l1Int_eq hl i0 i1 s (c := [0, 1, 2, 9, 10]) (by simp)
  simp only [e, Option.bind_some]
  obtain ⟨v, i, s, e, v0, v1, i0, i1⟩ := spec_l1Below_eq hl i0 i1 s (n := 5) (by omega)
  simp only [e, Option.bind_some]
  obtain ⟨v, i, s, e, v0, v1, i0, i1⟩ := spec_l1Below_eq hl i0 i1 s (n := 4) (by omega)
  simp only [e, Option.bind_some]
  exact ⟨_, _, _, _, _, _, _, rfl, i0, i1⟩
theorem spec_l7Any_eq {l : List Int} (hl : l.length ≤ 1099511627776) {i : Int} (h0 : 0 ≤ i) (h1 : i ≤ l.length) (s : Int) : ∃ r c h b p i' s', spec_l7Any.f l i s = some (r, c, h, b, p, i', s') ∧ 0 ≤ i' ∧ i' ≤ l.length := by
  unfold spec_l7Any.f
  obtain ⟨r, c, h, b, p, i, s, e, i0, i1⟩ := spec_l7Draw_eq hl h0 h1 s
  simp only [e, Option.bind_some]
  obtain ⟨v, i, s, e, v0, v1, i0, i1⟩ := spec_l1Below_eq hl i0 i1 s (n := 12) (by omega)
  simp only [e, Option.bind_some]
  by_cases c0 : v = 0
  · rw [if_pos c0]
    obtain ⟨j, i, s, e, hj, i0, i1⟩ := spec_l1Int_eq hl i0 i1 s (c := [0, 99, 100]) (by simp)
    simp only [e, Option.bind_some]
    exact ⟨_, _, _, _, _, _, _, rfl, i0, i1⟩
  · rw [if_neg c0]
    by_cases c1 : v = 1
    · rw [if_pos c1]
      obtain ⟨j, i, s, e, hj, i0, i1⟩ := spec_l1Int_eq hl i0 i1 s (c := [-1, 99999, 100000, 100001]) (by simp)
      simp only [e, Option.bind_some]
      exact ⟨_, _, _, _, _, _, _, rfl, i0, i1⟩
    · rw [if_neg c1]
      by_cases c2 : v = 2
      · rw [if_pos c2]
        obtain ⟨j, i, s, e, hj, i0, i1⟩ := spec_l1Int_eq hl i0 i1 s (c := [-1, 11]) (by simp)
        simp only [e, Option.bind_some]
        exact ⟨_, _, _, _, _, _, _, rfl, i0, i1⟩
      · rw [if_neg c2]
        by_cases c3 : v = 3
        · rw [if_pos c3]
          obtain ⟨j, i, s, e, hj, i0, i1⟩ := spec_l1Int_eq hl i0 i1 s (c := [-1, 7, 8]) (by simp)
          simp only [e, Option.bind_some]
          exact ⟨_, _, _, _, _, _, _, rfl, i0, i1⟩
        · rw [if_neg c3]
          exact ⟨_, _, _, _, _, _, _, rfl, i0, i1⟩
theorem spec_DrawPutVec_eq {b : List Int} (hb : b.length ≤ 1099511627776) {k : Nat} (hk : b.length < k) : ∃ r c h l p, spec_DrawPutVec.f k b = some (r, c, h, l, p) := by
  unfold spec_DrawPutVec.f
  obtain ⟨s, e⟩ := spec_l1New_eq hb hk
  simp only [e, Option.bind_some]
  obtain ⟨r, c, h, l, p, i, s, e, i0, i1⟩ := spec_l7Any_eq hb (i := 0) (by omega) (by omega) s
  simp only [e, Option.bind_some]
  exact ⟨_, _, _, _, _, rfl⟩
theorem spec_DrawGetVec_eq {b : List Int} (hb : b.length ≤ 1099511627776) {k : Nat} (hk : b.length + 20 < k) : ∃ l, spec_DrawGetVec.f k b = some l ∧ B l ∧ l.length ≤ 31 := by
  unfold spec_DrawGetVec.f
  obtain ⟨s, e⟩ := spec_l1New_eq hb (k := k) (by omega)
  simp only [e, Option.bind_some]
  obtain ⟨r, c, h, l, p, i, s, e, i0, i1⟩ := spec_l7Draw_eq hb (i := 0) (by omega) (by omega) s
  simp only [e, Option.bind_some]
  have hp := putVec_len r c h l p
  rw [spec_PutVec_eq r c h l p (by omega), Option.bind_some]
  obtain ⟨l', i, s, e, hB, hl, _⟩ := spec_l1Bend_eq hb i0 i1 s (l := putVec r c h l p) (by omega) (putVec_B _ _ _ _ _)
  simp only [e, Option.bind_some]
  exact ⟨_, rfl, hB, by omega⟩
end Go.Proofs.Ytkcgghgkmgbphaa.EqFnVecs
