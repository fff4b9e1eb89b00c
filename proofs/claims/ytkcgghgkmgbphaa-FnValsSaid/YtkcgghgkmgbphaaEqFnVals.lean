/- What the printed functions of FnVals answer, said in plain words of lists and numbers. Conditions: sizes and ranges, as each lemma names them. -/
import Derived.Test.YtkcgghgkmgbphaaPFnValsx16
import Derived.Test.YtkcgghgkmgbphaaBaseFnVals
import Derived.Test.YtkcgghgkmgbphaaBytesFnVals
import Derived.Test.YtkcgghgkmgbphaaOidFnVals
import Derived.Test.YtkcgghgkmgbphaaValFnVals
namespace Go.Proofs.Ytkcgghgkmgbphaa.EqFnVals
open Go.RowKit Go.Proofs.Ytkcgghgkmgbphaa.PFnVals Go.Proofs.YtkcgghgkmgbphaaW.PrintWords Go.Proofs.YtkcgghgkmgbphaaW.PrintLast Go.Proofs.Ytkcgghgkmgbphaa.Base
theorem spec_l1In_eq (a b c : Int) : spec_l1In.f a b c = some (decide (b ≤ a ∧ a ≤ c)) := by
  unfold spec_l1In.f
  by_cases h : a ≥ b
  · rw [if_pos h]; congr 1; simp; omega
  · rw [if_neg h]; congr 1; simp; omega
theorem impl_in_eq (a b c : Int) : impl_in.f a b c = some (decide (b ≤ a ∧ a ≤ c)) := by
  unfold impl_in.f
  by_cases h : a ≥ b
  · rw [if_pos h]; congr 1; simp; omega
  · rw [if_neg h]; congr 1; simp; omega
theorem spec_l1Clip_eq (n : Int) : spec_l1Clip.f n = some (clip n) := by
  unfold spec_l1Clip.f clip
  repeat' split
  all_goals first | rfl | omega
theorem spec_PutInt_eq (n : Int) {k : Nat} (hk : 10 ≤ k) : spec_PutInt.f k n = some (putInt n) := by
  unfold spec_PutInt.f
  rw [spec_l1Clip_eq, Option.bind_some]
  unfold putInt
  obtain ⟨h0, h1⟩ := clip_range n
  generalize clip n = c at *
  obtain ⟨k, rfl⟩ : ∃ m, k = m + 5 := ⟨k - 5, by omega⟩
  have step : ∀ (k : Nat) (x : Int) (l : List Int), ¬ (-128 ≤ x ∧ x ≤ 127) → l.length < 1000 → spec_PutInt.l0 (k + 1) x l = spec_PutInt.l0 k (x / 256) ((x / 256) % 256 :: l) := by
    intro k x l hx hl
    simp only [spec_PutInt.l0, Option.bind_some, List.length_cons, List.length_nil, List.cons_append, List.nil_append]
    by_cases c : x < -128
    · rw [if_pos c, if_pos (by omega)]
    · rw [if_neg c, if_pos (by omega), if_pos (by omega)]
  have stop : ∀ (k : Nat) (x : Int) (l : List Int), (-128 ≤ x ∧ x ≤ 127) → spec_PutInt.l0 (k + 1) x l = some l := by
    intro k x l hx
    simp only [spec_PutInt.l0]
    rw [if_neg (by omega), if_neg (by omega)]
  unfold intBytes
  by_cases c1 : -128 ≤ c ∧ c ≤ 127
  · rw [if_pos c1]; exact stop _ _ _ c1
  · rw [if_neg c1, step _ _ _ c1 (by simp)]
    by_cases c2 : -32768 ≤ c ∧ c ≤ 32767
    · rw [if_pos c2]; exact stop _ _ _ (by omega)
    · rw [if_neg c2, step _ _ _ (by omega) (by simp)]
      by_cases c3 : -8388608 ≤ c ∧ c ≤ 8388607
      · rw [if_pos c3, stop _ _ _ (by omega), show c / 256 / 256 = c / 65536 by omega]
      · rw [if_neg c3, step _ _ _ (by omega) (by simp), stop _ _ _ (by omega), show c / 256 / 256 = c / 65536 by omega, show c / 65536 / 256 = c / 16777216 by omega]
theorem impl_PutInt_eq (n : Int) {k : Nat} (hk : 20 ≤ k) : impl_PutInt.f k n = some (putInt n) := by
  unfold impl_PutInt.f
  rw [mxmn]
  unfold putInt
  obtain ⟨h0, h1⟩ := clip_range n
  generalize clip n = c at *
  obtain ⟨k, rfl⟩ : ∃ m, k = m + 12 := ⟨k - 12, by omega⟩
  have nx : ∀ (k : Nat) (j : Int) (lo hi : Int), j < 4 → 0 ≤ wrap64 (wrap64 (8 * j) - 1) → shl .i64 (-1) (wrap64 (wrap64 (8 * j) - 1)) = lo → wrap64 (shl .i64 1 (wrap64 (wrap64 (8 * j) - 1)) - 1) = hi →
      impl_PutInt.l0 (k + 1) c j = if lo ≤ c ∧ c ≤ hi then impl_PutInt.j1 k c j else impl_PutInt.l0 k c (wrap64 (j + 1)) := by
    intro k j lo hi hj hs e1 e2
    simp only [impl_PutInt.l0]
    rw [if_pos hj, if_pos hs, e1, e2, impl_in_eq, Option.bind_some]
    by_cases h : lo ≤ c ∧ c ≤ hi
    · rw [if_pos (by simpa using h), if_pos h]
    · rw [if_neg (by simpa using h), if_neg h]
  have out : ∀ (k : Nat) (l : List Int) (j : Int) (v : Int), 0 ≤ j → j ≤ 3 → l.length < 1000 → shr .i64 c (wrap64 (8 * j)) = v → impl_PutInt.l1 (k + 1) c l j = impl_PutInt.l1 k c (l ++ [v % 256]) (wrap64 (j - 1)) := by
    intro k l j v hj hj3 hl hv
    simp only [impl_PutInt.l1]
    rw [if_pos hj, if_pos (by rw [w64 (by omega) (by omega)]; omega), if_pos (by omega), hv]
  have fin : ∀ (k : Nat) (l : List Int), impl_PutInt.l1 (k + 1) c l (-1) = some l := by
    intro k l
    simp only [impl_PutInt.l1]
    rw [if_neg (by omega)]
  have s0 : shr .i64 c (wrap64 (8 * 0)) = c := by unfold shr; rw [show (2 : Int) ^ min (wrap64 (8 * 0)).toNat IntKind.i64.bits = 1 by decide +kernel, Int.ediv_one]
  have s1 : shr .i64 c (wrap64 (8 * 1)) = c / 256 := by unfold shr; rw [show (2 : Int) ^ min (wrap64 (8 * 1)).toNat IntKind.i64.bits = 256 by decide +kernel]
  have s2 : shr .i64 c (wrap64 (8 * 2)) = c / 65536 := by unfold shr; rw [show (2 : Int) ^ min (wrap64 (8 * 2)).toNat IntKind.i64.bits = 65536 by decide +kernel]
  have s3 : shr .i64 c (wrap64 (8 * 3)) = c / 16777216 := by unfold shr; rw [show (2 : Int) ^ min (wrap64 (8 * 3)).toNat IntKind.i64.bits = 16777216 by decide +kernel]
  have w1 : wrap64 (1 - 1) = 0 := by decide +kernel
  have w2 : wrap64 (2 - 1) = 1 := by decide +kernel
  have w3 : wrap64 (3 - 1) = 2 := by decide +kernel
  have w4 : wrap64 (4 - 1) = 3 := by decide +kernel
  have w0 : wrap64 (0 - 1) = -1 := by decide +kernel
  unfold intBytes
  rw [nx (k + 11) 1 (-128) 127 (by omega) (by decide +kernel) (by decide +kernel) (by decide +kernel)]
  by_cases c1 : -128 ≤ c ∧ c ≤ 127
  · rw [if_pos c1, if_pos c1]
    simp only [impl_PutInt.j1]
    rw [w1, out _ _ 0 c (by omega) (by omega) (by simp) s0, w0, fin]
    rfl
  · rw [if_neg c1, if_neg c1, show wrap64 (1 + 1) = 2 by decide +kernel, nx _ 2 (-32768) 32767 (by omega) (by decide +kernel) (by decide +kernel) (by decide +kernel)]
    by_cases c2 : -32768 ≤ c ∧ c ≤ 32767
    · rw [if_pos c2, if_pos c2]
      simp only [impl_PutInt.j1]
      rw [w2, out _ _ 1 _ (by omega) (by omega) (by simp) s1, w1, out _ _ 0 c (by omega) (by omega) (by simp) s0, w0, fin]
      rfl
    · rw [if_neg c2, if_neg c2, show wrap64 (2 + 1) = 3 by decide +kernel, nx _ 3 (-8388608) 8388607 (by omega) (by decide +kernel) (by decide +kernel) (by decide +kernel)]
      by_cases c3 : -8388608 ≤ c ∧ c ≤ 8388607
      · rw [if_pos c3, if_pos c3]
        simp only [impl_PutInt.j1]
        rw [w3, out _ _ 2 _ (by omega) (by omega) (by simp) s2, w2, out _ _ 1 _ (by omega) (by omega) (by simp) s1, w1, out _ _ 0 c (by omega) (by omega) (by simp) s0, w0, fin]
        rfl
      · rw [if_neg c3, if_neg c3, show wrap64 (3 + 1) = 4 by decide +kernel]
        have : impl_PutInt.l0 (k + 8 + 1) c 4 = impl_PutInt.j1 (k + 8) c 4 := by simp only [impl_PutInt.l0]; rw [if_neg (by omega)]
        rw [this]
        simp only [impl_PutInt.j1]
        rw [w4, out _ _ 3 _ (by omega) (by omega) (by simp) s3, w3, out _ _ 2 _ (by omega) (by omega) (by simp) s2, w2, out _ _ 1 _ (by omega) (by omega) (by simp) s1, w1, out _ _ 0 c (by omega) (by omega) (by simp) s0, w0, fin]
        rfl
theorem spec_GetTlv_eq {l : List Int} (hB : B l) (hl : l.length ≤ 1099511627776) {a : Int} (ha : -9223372036854775808 ≤ a ∧ a ≤ 9223372036854775807) : spec_GetTlv.f l a = some (tlv4 l a) := by
  have b1 := hB.at_ (a + 1)
  have b2 := hB.at_ (a + 2)
  have b0 := hB.at_ a
  unfold tlv4 tlvAt
  by_cases h : 0 ≤ a ∧ a + 1 < l.length
  · rw [if_pos h]
    obtain ⟨h0, h1⟩ := h
    have w1 : wrap64 (a + 1) = a + 1 := w64 (by omega) (by omega)
    have w2 : wrap64 (a + 2) = a + 2 := w64 (by omega) (by omega)
    have w3 : wrap64 (a + 2 + 1) = a + 3 := by rw [w64 (by omega) (by omega)]; omega
    have v0 : wrap64 (rd l a) = rd l a := w64 (by omega) (by omega)
    have v1 : wrap64 (rd l (a + 1)) = rd l (a + 1) := w64 (by omega) (by omega)
    have v2 : wrap64 (rd l (a + 2)) = rd l (a + 2) := w64 (by omega) (by omega)
    have s2 : wrap64 ((l.length : Int) - (a + 2)) = l.length - (a + 2) := w64 (by omega) (by omega)
    have s3 : wrap64 ((l.length : Int) - (a + 3)) = l.length - (a + 3) := w64 (by omega) (by omega)
    have t2 : wrap64 (a + 2 + rd l (a + 1)) = a + 2 + rd l (a + 1) := w64 (by omega) (by omega)
    have t3 : wrap64 (a + 3 + rd l (a + 2)) = a + 3 + rd l (a + 2) := w64 (by omega) (by omega)
    unfold spec_GetTlv.f
    simp only [w1, w2, w3, v0, v1, v2, s2, s3, t2, t3, Option.bind_some, List.nil_append, List.length_nil, Nat.zero_add]
    rw [if_neg (by omega), if_neg (by omega), if_neg (by omega), if_pos (by omega), if_pos (by omega)]
    by_cases c : rd l (a + 1) < 128
    · rw [if_pos c, if_neg (by omega), if_neg (by omega)]
      by_cases c2 : a + 2 + rd l (a + 1) ≤ l.length
      · rw [if_neg (by omega), if_pos (by omega), if_pos (by omega), if_pos (by omega), if_pos (by omega), if_pos (by omega), if_pos (by rw [List.length_drop, List.length_take]; omega), if_pos c2]
      · rw [if_pos (by omega), if_neg c2]
    · rw [if_neg c, if_pos (by omega)]
      by_cases d : rd l (a + 1) = 129
      · rw [if_pos d]
        by_cases d2 : a + 2 ≥ (l.length : Int)
        · rw [if_pos d2, if_neg (by omega)]
        · rw [if_neg d2, if_pos (by omega), if_pos (by omega)]
          by_cases d3 : rd l (a + 2) < 128
          · rw [if_pos d3, if_neg (by omega)]
          · rw [if_neg d3]
            by_cases d4 : rd l (a + 2) > 250
            · rw [if_pos d4, if_neg (by omega)]
            · rw [if_neg d4]
              by_cases d5 : rd l (a + 2) > l.length - (a + 3)
              · rw [if_pos d5, if_neg (by omega)]
              · rw [if_neg d5, if_pos (by omega), if_pos (by omega), if_pos (by omega), if_pos (by omega), if_pos (by omega), if_pos (by rw [List.length_drop, List.length_take]; omega), if_pos (by omega)]
      · rw [if_neg d, if_neg (by omega)]
  · rw [if_neg h]
    unfold spec_GetTlv.f
    by_cases h0 : a < 0
    · rw [if_pos h0]
    · rw [if_neg h0]
      by_cases h1 : a ≥ (l.length : Int)
      · rw [if_pos h1]
      · rw [if_neg h1, if_pos (by rw [w64 (by omega) (by omega)]; omega)]
theorem impl_copyBytes_eq {l : List Int} (hl : l.length ≤ 1099511627776) : impl_copyBytes.f l = some l := by
  unfold impl_copyBytes.f
  rw [if_pos (by simp only [List.length_nil]; omega)]
  rfl
theorem impl_GetTlv_eq {l : List Int} (hB : B l) (hl : l.length ≤ 1099511627776) {a : Int} (ha : -9223372036854775808 ≤ a ∧ a ≤ 9223372036854775807) : impl_GetTlv.f l a = some (tlv4 l a) := by
  have b1 := hB.at_ (a + 1)
  have b2 := hB.at_ (a + 2)
  have b0 := hB.at_ a
  have z2 : wrap64 ((l.length : Int) - 2) = l.length - 2 := w64 (by omega) (by omega)
  unfold tlv4 tlvAt
  by_cases h : 0 ≤ a ∧ a + 1 < l.length
  · rw [if_pos h]
    obtain ⟨h0, h1⟩ := h
    have w1 : wrap64 (a + 1) = a + 1 := w64 (by omega) (by omega)
    have w2 : wrap64 (a + 2) = a + 2 := w64 (by omega) (by omega)
    have w3 : wrap64 (a + 2 + 1) = a + 3 := by rw [w64 (by omega) (by omega)]; omega
    have v0 : wrap64 (rd l a) = rd l a := w64 (by omega) (by omega)
    have v1 : wrap64 (rd l (a + 1)) = rd l (a + 1) := w64 (by omega) (by omega)
    have v2 : wrap64 (rd l (a + 2)) = rd l (a + 2) := w64 (by omega) (by omega)
    have s2 : wrap64 ((l.length : Int) - (a + 2)) = l.length - (a + 2) := w64 (by omega) (by omega)
    have s3 : wrap64 ((l.length : Int) - (a + 3)) = l.length - (a + 3) := w64 (by omega) (by omega)
    have t2 : wrap64 (a + 2 + rd l (a + 1)) = a + 2 + rd l (a + 1) := w64 (by omega) (by omega)
    have t3 : wrap64 (a + 3 + rd l (a + 2)) = a + 3 + rd l (a + 2) := w64 (by omega) (by omega)
    unfold impl_GetTlv.f
    simp only [z2, w1, w2, w3, v0, v1, v2, s2, s3, t2, t3]
    rw [if_neg (by omega), if_neg (by omega), if_pos (by omega), if_pos (by omega)]
    by_cases c : rd l (a + 1) < 128
    · rw [if_pos c, if_neg (by omega), if_neg (by omega)]
      by_cases c2 : a + 2 + rd l (a + 1) ≤ l.length
      · rw [if_neg (by omega), if_pos (by omega), if_pos (by omega), if_pos (by omega), if_pos (by omega), if_pos (by omega), if_pos c2, impl_copyBytes_eq (by rw [List.length_drop, List.length_take]; omega), Option.bind_some]
      · rw [if_pos (by omega), if_neg c2]
    · rw [if_neg c, if_pos (by omega)]
      by_cases d : rd l (a + 1) = 129
      · rw [if_pos d]
        by_cases d2 : a + 2 ≥ (l.length : Int)
        · rw [if_pos d2, if_neg (by omega)]
        · rw [if_neg d2, if_pos (by omega), if_pos (by omega)]
          by_cases d3 : rd l (a + 2) < 128
          · rw [if_pos d3, if_neg (by omega)]
          · rw [if_neg d3]
            by_cases d4 : rd l (a + 2) > 250
            · rw [if_pos d4, if_neg (by omega)]
            · rw [if_neg d4]
              by_cases d5 : rd l (a + 2) > l.length - (a + 3)
              · rw [if_pos d5, if_neg (by omega)]
              · rw [if_neg d5, if_pos (by omega), if_pos (by omega), if_pos (by omega), if_pos (by omega), if_pos (by omega), impl_copyBytes_eq (by rw [List.length_drop, List.length_take]; omega), Option.bind_some, if_pos (by omega)]
      · rw [if_neg d, if_neg (by omega)]
  · rw [if_neg h]
    unfold impl_GetTlv.f
    rw [z2]
    by_cases h0 : a < 0
    · rw [if_pos h0]
    · rw [if_neg h0, if_pos (by omega)]
theorem spec_GetInt_l0 (b : List Int) (hB : B b) (hl : b.length ≤ 4) (d : Nat) : ∀ (k i : Nat) (n : Int), b.length - i = d → d + 20 ≤ k → i ≤ b.length → (∀ m : Nat, m ≤ d → -2147483648 ≤ ((b.drop i).take m).foldl more n ∧ ((b.drop i).take m).foldl more n ≤ 2147483647) →
    spec_GetInt.l0 k b n (i : Int) = some (if (putInt ((b.drop i).foldl more n)).length = b.length then ((b.drop i).foldl more n, true) else (0, false)) := by
  induction d with
  | zero =>
    intro k i n hd hk hi hr
    obtain ⟨k, rfl⟩ : ∃ m, k = m + 1 := ⟨k - 1, by omega⟩
    simp only [spec_GetInt.l0]
    rw [if_neg (by omega), spec_PutInt_eq _ (by omega), Option.bind_some, List.drop_of_length_le (by omega)]
    by_cases h : (putInt n).length = b.length
    · rw [if_pos (by omega)]; exact congrArg some (if_pos h).symm
    · rw [if_neg (by omega)]; exact congrArg some (if_neg h).symm
  | succ d ih =>
    intro k i n hd hk hi hr
    obtain ⟨k, rfl⟩ : ∃ m, k = m + 1 := ⟨k - 1, by omega⟩
    have hlt : i < b.length := by omega
    have hx := hB.at_ (i : Int)
    simp only [spec_GetInt.l0]
    have e : b.drop i = rd b (i : Int) :: b.drop (i + 1) := by
      rw [List.drop_eq_getElem_cons hlt]
      congr 1
      rw [rd_nat, List.getD_eq_getElem?_getD, List.getElem?_eq_getElem hlt]; rfl
    have h1 := hr 1 (by omega)
    rw [e] at h1
    simp only [List.take_succ_cons, List.take_zero, List.foldl_cons, List.foldl_nil, more] at h1
    rw [if_pos (by omega), if_pos (by omega), or_bytes _ _ hx.1 hx.2, w64 (n := (i : Int) + 1) (by omega) (by omega), w64 (by omega) (by omega), e, List.foldl_cons]
    have := ih k (i + 1) (n * 256 + rd b (i : Int)) (by omega) (by omega) (by omega) (fun m hm => by
      have := hr (m + 1) (by omega)
      rw [e, List.take_succ_cons, List.foldl_cons] at this
      exact this)
    exact this
theorem impl_GetInt_l0 (b c : List Int) (hB : B c) (hl : c.length ≤ 4) (d : Nat) : ∀ (k i : Nat) (n : Int), c.length - i = d → d + 30 ≤ k → i ≤ c.length → (∀ m : Nat, m ≤ d → -2147483648 ≤ ((c.drop i).take m).foldl more n ∧ ((c.drop i).take m).foldl more n ≤ 2147483647) →
    impl_GetInt.l0 k b n c (c.length : Int) (i : Int) = some (if (putInt ((c.drop i).foldl more n)).length = b.length then ((c.drop i).foldl more n, true) else (0, false)) := by
  induction d with
  | zero =>
    intro k i n hd hk hi hr
    obtain ⟨k, rfl⟩ : ∃ m, k = m + 1 := ⟨k - 1, by omega⟩
    simp only [impl_GetInt.l0]
    rw [if_neg (by omega), impl_PutInt_eq _ (by omega), Option.bind_some, List.drop_of_length_le (by omega)]
    by_cases h : (putInt n).length = b.length
    · rw [if_pos (by omega)]; exact congrArg some (if_pos h).symm
    · rw [if_neg (by omega)]; exact congrArg some (if_neg h).symm
  | succ d ih =>
    intro k i n hd hk hi hr
    obtain ⟨k, rfl⟩ : ∃ m, k = m + 1 := ⟨k - 1, by omega⟩
    have hlt : i < c.length := by omega
    have hx := hB.at_ (i : Int)
    simp only [impl_GetInt.l0]
    have e : c.drop i = rd c (i : Int) :: c.drop (i + 1) := by
      rw [List.drop_eq_getElem_cons hlt]
      congr 1
      rw [rd_nat, List.getD_eq_getElem?_getD, List.getElem?_eq_getElem hlt]; rfl
    have h1 := hr 1 (by omega)
    rw [e] at h1
    simp only [List.take_succ_cons, List.take_zero, List.foldl_cons, List.foldl_nil, more] at h1
    rw [if_pos (by omega), if_pos (by omega), if_pos (by omega), or_bytes _ _ hx.1 hx.2, w64 (n := (i : Int) + 1) (by omega) (by omega), w64 (by omega) (by omega), e, List.foldl_cons]
    have := ih k (i + 1) (n * 256 + rd c (i : Int)) (by omega) (by omega) (by omega) (fun m hm => by
      have := hr (m + 1) (by omega)
      rw [e, List.take_succ_cons, List.foldl_cons] at this
      exact this)
    exact this
/-- Behind some intBytes a number is still small. -/
theorem fold_small (l : List Int) (hB : B l) (x : Int) (hx : -128 ≤ x ∧ x ≤ 127) (hl : l.length ≤ 3) (m : Nat) : -2147483648 ≤ (l.take m).foldl more x ∧ (l.take m).foldl more x ≤ 2147483647 := by
  have hl2 : (l.take m).length ≤ 3 := by rw [List.length_take]; omega
  have hB2 := hB.take m
  generalize l.take m = t at *
  match t, hl2, hB2 with
  | [], _, _ => simp only [List.foldl_nil]; omega
  | [a], _, h =>
    have ha := h a (by simp)
    simp only [List.foldl_cons, List.foldl_nil, more]; omega
  | [a, b], _, h =>
    have ha := h a (by simp)
    have hb := h b (by simp)
    simp only [List.foldl_cons, List.foldl_nil, more]; omega
  | [a, b, c], _, h =>
    have ha := h a (by simp)
    have hb := h b (by simp)
    have hc := h c (by simp)
    simp only [List.foldl_cons, List.foldl_nil, more]; omega
  | a :: b :: c :: d :: t, h, _ => simp at h
theorem spec_GetInt_eq {b : List Int} (hB : B b) (hl : b.length ≤ 1099511627776) {k : Nat} (hk : 40 ≤ k) : spec_GetInt.f k b = some (getInt b) := by
  unfold spec_GetInt.f getInt
  rw [spec_l1In_eq, Option.bind_some]
  by_cases h : 1 ≤ b.length ∧ b.length ≤ 4
  · rw [if_pos (by simp; omega), if_pos (by omega), if_pos h]
    obtain ⟨x, l, rfl⟩ : ∃ x l, b = x :: l := by
      cases b with
      | nil => simp at h
      | cons x l => exact ⟨x, l, rfl⟩
    have hx := hB x (by simp)
    have hBl : B l := fun y hy => hB y (List.mem_cons_of_mem _ hy)
    have hll : l.length ≤ 3 := by have := h.2; simp at this; omega
    obtain ⟨k, rfl⟩ : ∃ m, k = m + 1 := ⟨k - 1, by omega⟩
    have e0 : rd (x :: l) 0 = x := rd_cons_zero x l
    have key : spec_GetInt.l0 k (x :: l) (s8 x) 1 = some (if (putInt (l.foldl more (s8 x))).length = (x :: l).length then (l.foldl more (s8 x), true) else (0, false)) := by
      have := spec_GetInt_l0 (x :: l) hB h.2 l.length k 1 (s8 x) (by simp) (by omega) (by simp) (fun m hm => by
        simp only [List.drop_succ_cons, List.drop_zero]
        exact fold_small l hBl (s8 x) (by unfold s8; split <;> omega) hll m)
      simpa using this
    rw [e0, w64 (n := x) (by omega) (by omega)]
    unfold xVal
    simp only
    by_cases c : x > 127
    · rw [if_pos c, w64 (by omega) (by omega)]
      simp only [spec_GetInt.j0]
      have : s8 x = x - 256 := by unfold s8; rw [if_pos c]
      rw [← this]; exact key
    · rw [if_neg c]
      simp only [spec_GetInt.j0]
      have : s8 x = x := by unfold s8; rw [if_neg c]
      rw [this] at key ⊢; exact key
  · rw [if_neg (by simp; omega), if_neg h]
theorem i8_s8 {x : Int} (h0 : 0 ≤ x) (h1 : x ≤ 255) : IntKind.i8.wrap x = s8 x := by
  unfold s8
  simp only [IntKind.wrap, IntKind.bits, IntKind.signed, Bool.true_and]
  by_cases c : x > 127
  · rw [if_pos c, if_pos (by simp only [decide_eq_true_eq, ge_iff_le]; omega)]; omega
  · rw [if_neg c, if_neg (by simp only [decide_eq_true_eq, ge_iff_le]; omega)]; omega
theorem impl_GetInt_eq {b : List Int} (hB : B b) (hl : b.length ≤ 1099511627776) {k : Nat} (hk : 50 ≤ k) : impl_GetInt.f k b = some (getInt b) := by
  unfold impl_GetInt.f getInt
  rw [impl_in_eq, Option.bind_some]
  by_cases h : 1 ≤ b.length ∧ b.length ≤ 4
  · rw [if_pos (by simp; omega), if_pos (by omega), if_pos (by omega), if_pos h]
    obtain ⟨x, l, rfl⟩ : ∃ x l, b = x :: l := by
      cases b with
      | nil => simp at h
      | cons x l => exact ⟨x, l, rfl⟩
    have hx := hB x (by simp)
    have hBl : B l := fun y hy => hB y (List.mem_cons_of_mem _ hy)
    have hll : l.length ≤ 3 := by have := h.2; simp at this; omega
    rw [rd_cons_zero, i8_s8 hx.1 hx.2, w64 (by unfold s8; split <;> omega) (by unfold s8; split <;> omega)]
    have := impl_GetInt_l0 (x :: l) l hBl (by omega) l.length k 0 (s8 x) (by simp) (by omega) (by simp) (fun m hm => by
        simp only [List.drop_zero]
        exact fold_small l hBl (s8 x) (by unfold s8; split <;> omega) hll m)
    exact this
  · rw [if_neg (by simp; omega), if_neg h]
theorem impl_tlv_eq (t : Int) (b : List Int) (hb : b.length ≤ 1099511627776) {k : Nat} (hk : 1 ≤ k) : impl_tlv.f k t b = some (if 0 ≤ t ∧ t ≤ 255 ∧ b.length ≤ 250 then (tlv t b, true) else ([], false)) := by
  obtain ⟨k, rfl⟩ : ∃ m, k = m + 1 := ⟨k - 1, by omega⟩
  unfold impl_tlv.f
  rw [impl_in_eq, Option.bind_some]
  by_cases h1 : 0 ≤ t ∧ t ≤ 255
  · rw [if_pos (by simpa using h1)]
    simp only [impl_tlv.j0, Option.bind_some, List.length_cons, List.length_nil, List.length_append]
    by_cases h2 : (b.length : Int) > 250
    · rw [if_pos (by simpa using h2), if_neg (by omega)]
    · rw [if_neg (by simpa using h2), if_pos (show 0 ≤ t ∧ t ≤ 255 ∧ b.length ≤ 250 by omega)]
      unfold tlv
      by_cases h3 : (b.length : Int) ≥ 128
      · rw [if_pos h3, if_pos (by omega), if_pos (by omega), if_pos (by omega), if_pos (by omega), show (b.length : Int) % 256 = b.length by omega]
        rfl
      · rw [if_neg h3, if_pos (by omega), if_pos (by omega), if_neg (by omega), show (b.length : Int) % 256 = b.length by omega]
        rfl
  · rw [if_neg (by simp; omega), if_neg (by omega)]
    simp only [impl_tlv.j0]
    rfl

theorem impl_copyBytes_eq' {l : List Int} (hl : l.length ≤ 1099511627776) : impl_copyBytes.f l = some l := by
  unfold impl_copyBytes.f
  rw [if_pos (by simp only [List.length_nil]; omega)]
  rfl
theorem impl_PutTlv_eq {p : List Int} (t : Int) {b : List Int} (hp : p.length ≤ 1099511627776) (hb : b.length ≤ 1099511627776) {k : Nat} (hk : 1 ≤ k) : impl_PutTlv.f k p t b = some (putTlv p t b) := by
  unfold impl_PutTlv.f putTlv
  rw [impl_tlv_eq t b hb hk, Option.bind_some, impl_copyBytes_eq' hp, Option.bind_some]
  by_cases h : 0 ≤ t ∧ t ≤ 255 ∧ b.length ≤ 250
  · rw [if_pos h, if_pos h]
    have := tlv_len t b
    rw [if_pos (by simp only; split at this <;> omega)]
  · rw [if_neg h, if_neg h]
    rw [if_pos (by simp only [List.length_nil]; omega), List.append_nil]
/-! ### draws: what they answer is in range, whatever was drawn from -/
theorem and255 (x : Int) : 0 ≤ Go.bits .and .i64 x 255 ∧ Go.bits .and .i64 x 255 ≤ 255 := by
  simp only [Go.bits]
  have h : (BitVec.ofInt 64 x &&& BitVec.ofInt 64 255).toNat ≤ 255 := by
    rw [BitVec.toNat_and, show (BitVec.ofInt 64 255).toNat = 255 by decide]
    exact Nat.and_le_right
  show 0 ≤ IntKind.i64.wrap (((BitVec.ofInt 64 x &&& BitVec.ofInt 64 255).toNat : Int)) ∧ IntKind.i64.wrap (((BitVec.ofInt 64 x &&& BitVec.ofInt 64 255).toNat : Int)) ≤ 255
  rw [IntKind.wrap_i64]
  omega
/-- A draw that went well: the value in range, the place not behind the end. -/
def Drawn (l : List Int) (lo hi : Int) (o : Option (Int × Int × Int)) : Prop := ∃ v i s, o = some (v, i, s) ∧ lo ≤ v ∧ v ≤ hi ∧ 0 ≤ i ∧ i ≤ l.length
theorem spec_l1Byte_eq {l : List Int} (hl : l.length ≤ 1099511627776) {i : Int} (h0 : 0 ≤ i) (h1 : i ≤ l.length) (s : Int) : Drawn l 0 255 (spec_l1Byte.f l i s) := by
  unfold spec_l1Byte.f
  by_cases h : i < (l.length : Int)
  · rw [if_pos h, if_pos h0, w64 (n := i + 1) (by omega) (by omega)]
    exact ⟨_, _, _, rfl, (and255 _).1, (and255 _).2, by omega, by omega⟩
  · rw [if_neg h]
    exact ⟨_, _, _, rfl, (and255 _).1, (and255 _).2, h0, h1⟩
theorem spec_l1New_l0 (l : List Int) (hl : l.length ≤ 1099511627776) (d : Nat) : ∀ (k i : Nat) (s : Int), l.length - i = d → d < k → ∃ s', spec_l1New.l0 k l s (i : Int) = some (l, 0, s') := by
  induction d with
  | zero =>
    intro k i s hd hk
    obtain ⟨k, rfl⟩ : ∃ m, k = m + 1 := ⟨k - 1, by omega⟩
    simp only [spec_l1New.l0]
    rw [if_neg (by omega)]
    exact ⟨_, rfl⟩
  | succ d ih =>
    intro k i s hd hk
    obtain ⟨k, rfl⟩ : ∃ m, k = m + 1 := ⟨k - 1, by omega⟩
    have nx := fun s => ih k (i + 1) s (by omega) (by omega)
    rw [show ((i + 1 : Nat) : Int) = (i : Int) + 1 by omega] at nx
    simp only [spec_l1New.l0]
    rw [if_pos (by omega), w64 (n := (i : Int) + 1) (by omega) (by omega)]
    by_cases h : (i : Int) < 4000
    · rw [if_pos h, if_pos (by omega)]; exact nx _
    · rw [if_neg h]; exact ⟨_, rfl⟩
theorem spec_l1New_eq {l : List Int} (hl : l.length ≤ 1099511627776) {k : Nat} (hk : l.length < k) : ∃ s, spec_l1New.f k l = some (l, 0, s) := by
  unfold spec_l1New.f
  exact spec_l1New_l0 l hl l.length k 0 _ (by omega) hk
theorem tmod_range {x n : Int} (hx : 0 ≤ x) (hn : 0 < n) : 0 ≤ Int.tmod x n ∧ Int.tmod x n ≤ n - 1 := by
  rw [Int.tmod_eq_emod_of_nonneg hx]
  have := Int.emod_nonneg x (show n ≠ 0 by omega)
  have := Int.emod_lt_of_pos x hn
  omega
theorem spec_l1Below_eq {l : List Int} (hl : l.length ≤ 1099511627776) {i : Int} (h0 : 0 ≤ i) (h1 : i ≤ l.length) (s : Int) {n : Int} (hn : 0 < n) : Drawn l 0 (n - 1) (spec_l1Below.f l i s n) := by
  unfold spec_l1Below.f
  rw [if_neg (by omega)]
  obtain ⟨v, i, s, e, v0, v1, i0, i1⟩ := spec_l1Byte_eq hl h0 h1 s
  have nz : ¬ n = 0 := by omega
  simp only [e, Option.bind_some, if_neg nz]
  by_cases h : n ≤ 256
  · rw [if_pos h]
    exact ⟨_, _, _, rfl, (tmod_range v0 hn).1, (tmod_range v0 hn).2, i0, i1⟩
  · rw [if_neg h]
    obtain ⟨v2, i2, s2, e2, v20, v21, i20, i21⟩ := spec_l1Byte_eq hl i0 i1 s
    simp only [e2, Option.bind_some]
    obtain ⟨v3, i3, s3, e3, v30, v31, i30, i31⟩ := spec_l1Byte_eq hl i20 i21 s2
    simp only [e3, Option.bind_some]
    have hp : 0 ≤ wrap64 (wrap64 (wrap64 (v * 65536) + wrap64 (v2 * 256)) + v3) := by
      rw [w64 (n := v * 65536) (by omega) (by omega), w64 (n := v2 * 256) (by omega) (by omega), w64 (n := v * 65536 + v2 * 256) (by omega) (by omega), w64 (by omega) (by omega)]
      omega
    exact ⟨_, _, _, rfl, (tmod_range hp hn).1, (tmod_range hp hn).2, i30, i31⟩
theorem spec_l1Int_eq {l : List Int} (hl : l.length ≤ 1099511627776) {i : Int} (h0 : 0 ≤ i) (h1 : i ≤ l.length) (s : Int) {c : List Int} (hc : 0 < c.length) : ∃ j i' s', spec_l1Int.f l i s c = some (rd c (j : Nat), i', s') ∧ j < c.length ∧ 0 ≤ i' ∧ i' ≤ l.length := by
  unfold spec_l1Int.f
  obtain ⟨v, i, s, e, v0, v1, i0, i1⟩ := spec_l1Below_eq hl h0 h1 s (n := (c.length : Int)) (by omega)
  simp only [e, Option.bind_some]
  rw [if_pos v0, if_pos (by omega)]
  obtain ⟨j, rfl⟩ := Int.eq_ofNat_of_zero_le v0
  exact ⟨j, _, _, rfl, by omega, i0, i1⟩
theorem spec_PutTlv_eq {p : List Int} (t : Int) {b : List Int} (hp : p.length ≤ 1099511627776) (hb : b.length ≤ 1099511627776) {k : Nat} (hk : 1 ≤ k) : spec_PutTlv.f k p t b = some (putTlv p t b) := by
  obtain ⟨k, rfl⟩ : ∃ m, k = m + 1 := ⟨k - 1, by omega⟩
  unfold spec_PutTlv.f putTlv
  rw [Option.bind_some, if_pos (by simp only [List.length_nil]; omega), Option.bind_some, spec_l1In_eq, Option.bind_some, List.nil_append]
  by_cases h1 : 0 ≤ t ∧ t ≤ 255
  · rw [if_pos (decide_eq_true h1)]
    simp only [spec_PutTlv.j0]
    by_cases h2 : (b.length : Int) > 250
    · rw [if_pos (decide_eq_true h2), if_neg (by omega)]
    · rw [if_neg (by simpa using h2), if_pos (by omega), Option.bind_some, if_pos (show 0 ≤ t ∧ t ≤ 255 ∧ b.length ≤ 250 by omega)]
      unfold tlv
      by_cases h3 : (b.length : Int) > 127
      · rw [if_pos h3, if_pos (show 128 ≤ b.length by omega), if_pos (by simp only [List.length_append, List.length_cons, List.length_nil]; omega), Option.bind_some, if_pos (by simp only [List.length_append, List.length_cons, List.length_nil]; omega), Option.bind_some, if_pos (by simp only [List.length_append, List.length_cons, List.length_nil]; omega), show (b.length : Int) % 256 = b.length by omega]
        simp
      · rw [if_neg h3, if_neg (show ¬ 128 ≤ b.length by omega), if_pos (by simp only [List.length_append, List.length_cons, List.length_nil]; omega), Option.bind_some, if_pos (by simp only [List.length_append, List.length_cons, List.length_nil]; omega), show (b.length : Int) % 256 = b.length by omega]
        simp
  · rw [if_neg (by simpa using h1), if_neg (by omega)]
    simp only [spec_PutTlv.j0]
    rfl
theorem sameBytes_l0 (l : List Int) (hn : l.length ≤ 1099511627776) (d : Nat) : ∀ (k i : Nat), l.length - i = d → d < k → laws_sameBytes.l0 k l l (i : Int) = some true := by
  induction d with
  | zero =>
    intro k i hd hk
    obtain ⟨k, rfl⟩ : ∃ m, k = m + 1 := ⟨k - 1, by omega⟩
    simp only [laws_sameBytes.l0]
    rw [if_neg (by omega)]
  | succ d ih =>
    intro k i hd hk
    obtain ⟨k, rfl⟩ : ∃ m, k = m + 1 := ⟨k - 1, by omega⟩
    have nx := ih k (i + 1) (by omega) (by omega)
    rw [show ((i + 1 : Nat) : Int) = (i : Int) + 1 by omega] at nx
    simp only [laws_sameBytes.l0]
    rw [if_pos (by omega), if_pos (by omega), if_pos (by omega), w64 (by omega) (by omega), nx, if_pos trivial]
theorem sameBytes_self {l : List Int} (hn : l.length ≤ 1099511627776) {k : Nat} (hk : l.length < k) : laws_sameBytes.f k l l = some true := by
  unfold laws_sameBytes.f
  rw [if_pos rfl]
  exact sameBytes_l0 l hn l.length k 0 (by omega) hk
theorem spec_l1Bend_eq {b : List Int} (hb : b.length ≤ 1099511627776) {i : Int} (h0 : 0 ≤ i) (h1 : i ≤ b.length) (s : Int) {l : List Int} (hl : l.length ≤ 1099511627776) (hB : B l) : ∃ l' i' s', spec_l1Bend.f b i s l = some (l', i', s') ∧ B l' ∧ l'.length ≤ l.length + 1 ∧ 0 ≤ i' ∧ i' ≤ b.length := by
  unfold spec_l1Bend.f
  by_cases c : (l.length : Int) = 0
  · rw [if_pos c]; exact ⟨_, _, _, rfl, hB, by omega, h0, h1⟩
  · rw [if_neg c]
    obtain ⟨v, i, s, e, v0, v1, i0, i1⟩ := spec_l1Below_eq hb h0 h1 s (n := 5) (by omega)
    simp only [e, Option.bind_some]
    by_cases c0 : v = 0
    · rw [if_pos c0]
      obtain ⟨v, i, s, e, v0, v1, i0, i1⟩ := spec_l1Below_eq hb i0 i1 s (n := (l.length : Int)) (by omega)
      simp only [e, Option.bind_some]
      obtain ⟨j, i, s, e, hj, i0, i1⟩ := spec_l1Int_eq hb i0 i1 s (c := [0, 1, 2, 4, 5, 6, 48, 127, 128, 129, 160, 255]) (by simp)
      simp only [e, Option.bind_some]
      rw [if_pos v0, if_pos (by omega)]
      refine ⟨_, _, _, rfl, fun x hx => ?_, by rw [List.length_set]; omega, i0, i1⟩
      rcases List.mem_or_eq_of_mem_set hx with hx | hx
      · exact hB x hx
      · rw [hx]; omega
    · rw [if_neg c0]
      by_cases c1 : v = 1
      · rw [if_pos c1, if_pos (by omega)]
        exact ⟨_, _, _, rfl, hB.app (B.one (by omega) (by omega)), by simp, i0, i1⟩
      · rw [if_neg c1]
        by_cases c2 : v = 2
        · rw [if_pos c2]
          obtain ⟨v, i, s, e, v0, v1, i0, i1⟩ := spec_l1Below_eq hb i0 i1 s (n := (l.length : Int)) (by omega)
          simp only [e, Option.bind_some]
          rw [if_pos v0, if_pos (by omega)]
          exact ⟨_, _, _, rfl, hB.take _, by rw [List.length_take]; omega, i0, i1⟩
        · rw [if_neg c2]
          exact ⟨_, _, _, rfl, hB, by omega, i0, i1⟩
theorem spec_l1Bytes_l0 {b : List Int} (hb : b.length ≤ 1099511627776) (n : Int) (hn : n ≤ 1000) (d : Nat) : ∀ (k : Nat) (x : List Int) (j i s : Int), n - j ≤ d → 0 ≤ j → j ≤ 1000 → d < k → B x → x.length ≤ 100000 + j → 0 ≤ i → i ≤ b.length → ∃ x' i' s', spec_l1Bytes.l0 k n x j b i s = some (x', i', s') ∧ B x' ∧ x'.length ≤ x.length + d ∧ 0 ≤ i' ∧ i' ≤ b.length := by
  induction d with
  | zero =>
    intro k x j i s hd hj hj2 hk hB hx h0 h1
    obtain ⟨k, rfl⟩ : ∃ m, k = m + 1 := ⟨k - 1, by omega⟩
    simp only [spec_l1Bytes.l0]
    rw [if_neg (by omega)]
    exact ⟨_, _, _, rfl, hB, by omega, h0, h1⟩
  | succ d ih =>
    intro k x j i s hd hj hj2 hk hB hx h0 h1
    obtain ⟨k, rfl⟩ : ∃ m, k = m + 1 := ⟨k - 1, by omega⟩
    simp only [spec_l1Bytes.l0]
    by_cases c : j < n
    · rw [if_pos c, w64 (n := j + 1) (by omega) (by omega)]
      obtain ⟨v, i, s, e, v0, v1, i0, i1⟩ := spec_l1Byte_eq hb h0 h1 s
      simp only [e, Option.bind_some]
      rw [if_pos (by omega)]
      obtain ⟨x', i', s', e', q1, q2, q3⟩ := ih k (x ++ [v % 256]) (j + 1) i s (by omega) (by omega) (by omega) (by omega) (hB.app (B.mod v)) (by simp; omega) i0 i1
      exact ⟨x', i', s', e', q1, by simp at q2; omega, q3⟩
    · rw [if_neg c]
      exact ⟨_, _, _, rfl, hB, by omega, h0, h1⟩
theorem spec_l1Bytes_eq {b : List Int} (hb : b.length ≤ 1099511627776) {i : Int} (h0 : 0 ≤ i) (h1 : i ≤ b.length) (s : Int) (n : Int) {d : Nat} (hn : n ≤ d) (hd : d ≤ 1000) {k : Nat} (hk : d < k) : ∃ x' i' s', spec_l1Bytes.f k b i s n = some (x', i', s') ∧ B x' ∧ x'.length ≤ d ∧ 0 ≤ i' ∧ i' ≤ b.length := by
  unfold spec_l1Bytes.f
  have := spec_l1Bytes_l0 hb n (by omega) d k [] 0 i s (by omega) (by omega) (by omega) hk B.nil (by simp) h0 h1
  simpa using this
theorem spec_l1Some_eq {b : List Int} (hb : b.length ≤ 1099511627776) {i : Int} (h0 : 0 ≤ i) (h1 : i ≤ b.length) (s : Int) {k : Nat} (hk : 10 ≤ k) : ∃ x' i' s', spec_l1Some.f k b i s = some (x', i', s') ∧ B x' ∧ x'.length ≤ 9 ∧ 0 ≤ i' ∧ i' ≤ b.length := by
  unfold spec_l1Some.f
  obtain ⟨j, i, s, e, hj, i0, i1⟩ := spec_l1Int_eq hb h0 h1 s (c := [0, 1, 2, 5, 9]) (by simp)
  have hv : rd ([0, 1, 2, 5, 9] : List Int) (j : Nat) ≤ 9 := by
    simp only [List.length_cons, List.length_nil] at hj
    rw [rd_nat]
    match j, hj with
    | 0, _ => decide
    | 1, _ => decide
    | 2, _ => decide
    | 3, _ => decide
    | 4, _ => decide
  simp only [e, Option.bind_some]
  obtain ⟨x, i, s, e, hB, hx, i0, i1⟩ := spec_l1Bytes_eq hb i0 i1 s _ (d := 9) hv (by omega) (k := k) (by omega)
  simp only [e, Option.bind_some]
  exact ⟨_, _, _, rfl, hB, hx, i0, i1⟩
theorem impl_OidOk_l0 (o : List Int) (hn : o.length ≤ 1099511627776) (d : Nat) : ∀ (k i : Nat), o.length - i = d → d < k → i ≤ o.length → impl_OidOk.l0 k o o (o.length : Int) (i : Int) = some ((o.drop i).all (fun n => decide (0 ≤ n ∧ n ≤ 100000)) && decide (1 ≤ o.length ∧ o.length ≤ 10)) := by
  induction d with
  | zero =>
    intro k i hd hk hi
    obtain ⟨k, rfl⟩ : ∃ m, k = m + 1 := ⟨k - 1, by omega⟩
    simp only [impl_OidOk.l0]
    rw [if_neg (by omega), impl_in_eq, Option.bind_some, List.drop_of_length_le (by omega), List.all_nil, Bool.true_and]
    congr 1
    exact decide_eq_decide.2 (by omega)
  | succ d ih =>
    intro k i hd hk hi
    obtain ⟨k, rfl⟩ : ∃ m, k = m + 1 := ⟨k - 1, by omega⟩
    simp only [impl_OidOk.l0]
    rw [if_pos (by omega), if_pos (by omega), if_pos (by omega), impl_in_eq, Option.bind_some, w64 (n := (i : Int) + 1) (by omega) (by omega), show ((i : Int) + 1) = ((i + 1 : Nat) : Int) by omega, ih k (i + 1) (by omega) (by omega) (by omega), drop_cons_rd (l := o) (n := i) (by omega), List.all_cons]
    by_cases h : 0 ≤ rd o (i : Int) ∧ rd o (i : Int) ≤ 100000
    · rw [if_pos (decide_eq_true h), decide_eq_true h, Bool.true_and]
    · rw [if_neg (by simpa using h), decide_eq_false h, Bool.false_and, Bool.false_and]
theorem impl_OidOk_eq {o : List Int} (hn : o.length ≤ 1099511627776) {k : Nat} (hk : o.length < k) : impl_OidOk.f k o = some (oidOk o) := by
  unfold impl_OidOk.f oidOk
  have := impl_OidOk_l0 o hn o.length k 0 (by omega) hk (by omega)
  simpa using this
theorem spec_OidOk_l0 (o : List Int) (hn : o.length ≤ 1099511627776) (d : Nat) : ∀ (k i : Nat), o.length - i = d → d < k → i ≤ o.length → spec_OidOk.l0 k o (i : Int) = some ((o.drop i).all (fun n => decide (0 ≤ n ∧ n ≤ 100000)) && decide (1 ≤ o.length ∧ o.length ≤ 10)) := by
  induction d with
  | zero =>
    intro k i hd hk hi
    obtain ⟨k, rfl⟩ : ∃ m, k = m + 1 := ⟨k - 1, by omega⟩
    simp only [spec_OidOk.l0]
    rw [if_neg (by omega), spec_l1In_eq, Option.bind_some, List.drop_of_length_le (by omega), List.all_nil, Bool.true_and]
    congr 1
    exact decide_eq_decide.2 (by omega)
  | succ d ih =>
    intro k i hd hk hi
    obtain ⟨k, rfl⟩ : ∃ m, k = m + 1 := ⟨k - 1, by omega⟩
    simp only [spec_OidOk.l0]
    rw [if_pos (by omega), if_pos (by omega), spec_l1In_eq, Option.bind_some, w64 (n := (i : Int) + 1) (by omega) (by omega), show ((i : Int) + 1) = ((i + 1 : Nat) : Int) by omega, ih k (i + 1) (by omega) (by omega) (by omega), drop_cons_rd (l := o) (n := i) (by omega), List.all_cons]
    by_cases h : 0 ≤ rd o (i : Int) ∧ rd o (i : Int) ≤ 100000
    · rw [if_pos (decide_eq_true h), decide_eq_true h, Bool.true_and]
    · rw [if_neg (by simpa using h), decide_eq_false h, Bool.false_and, Bool.false_and]
theorem spec_OidOk_eq {o : List Int} (hn : o.length ≤ 1099511627776) {k : Nat} (hk : o.length < k) : spec_OidOk.f k o = some (oidOk o) := by
  unfold spec_OidOk.f oidOk
  have := spec_OidOk_l0 o hn o.length k 0 (by omega) hk (by omega)
  simpa using this
theorem list_ext_rd {a b : List Int} (hl : a.length = b.length) (h : ∀ i : Nat, i < a.length → rd a (i : Int) = rd b (i : Int)) : a = b := by
  apply List.ext_getElem hl
  intro i h1 h2
  have := h i h1
  simp only [rd, Int.toNat_natCast, List.getD_eq_getElem?_getD, List.getElem?_eq_getElem h1, List.getElem?_eq_getElem h2, Option.getD_some] at this
  exact this
theorem impl_SameOid_l0 (a b : List Int) (hl : a.length = b.length) (hn : a.length ≤ 1099511627776) (d : Nat) : ∀ (k i : Nat), a.length - i = d → d < k → i ≤ a.length → (∀ j : Nat, j < i → rd a (j : Int) = rd b (j : Int)) → impl_SameOid.l0 k a b (a.length : Int) (i : Int) = some (decide (a = b)) := by
  induction d with
  | zero =>
    intro k i hd hk hi hj
    obtain ⟨k, rfl⟩ : ∃ m, k = m + 1 := ⟨k - 1, by omega⟩
    simp only [impl_SameOid.l0]
    rw [if_neg (by omega), decide_eq_true (list_ext_rd hl (fun j h => hj j (by omega)))]
  | succ d ih =>
    intro k i hd hk hi hj
    obtain ⟨k, rfl⟩ : ∃ m, k = m + 1 := ⟨k - 1, by omega⟩
    simp only [impl_SameOid.l0]
    rw [if_pos (by omega), if_pos (by omega), if_pos (by omega), if_pos (by omega), w64 (n := (i : Int) + 1) (by omega) (by omega), show ((i : Int) + 1) = ((i + 1 : Nat) : Int) by omega]
    by_cases h : rd a (i : Int) = rd b (i : Int)
    · rw [if_pos h, ih k (i + 1) (by omega) (by omega) (by omega) (fun j hj2 => by rcases Nat.lt_succ_iff_lt_or_eq.1 hj2 with h2 | rfl; exact hj j h2; exact h)]
    · rw [if_neg h, decide_eq_false (fun e => h (by rw [e]))]
theorem impl_SameOid_eq {a b : List Int} (hn : a.length ≤ 1099511627776) {k : Nat} (hk : a.length < k) : impl_SameOid.f k a b = some (decide (a = b)) := by
  unfold impl_SameOid.f
  by_cases hl : a.length = b.length
  · rw [if_pos (by omega)]
    exact impl_SameOid_l0 a b hl hn a.length k 0 (by omega) hk (by omega) (fun j h => by omega)
  · rw [if_neg (by omega), decide_eq_false (fun e => hl (by rw [e]))]
theorem spec_SameOid_l0 (a b : List Int) (hl : a.length = b.length) (hn : a.length ≤ 1099511627776) (d : Nat) : ∀ (k i : Nat), a.length - i = d → d < k → i ≤ a.length → (∀ j : Nat, j < i → rd a (j : Int) = rd b (j : Int)) → spec_SameOid.l0 k a b (i : Int) = some (decide (a = b)) := by
  induction d with
  | zero =>
    intro k i hd hk hi hj
    obtain ⟨k, rfl⟩ : ∃ m, k = m + 1 := ⟨k - 1, by omega⟩
    simp only [spec_SameOid.l0]
    rw [if_neg (by omega), decide_eq_true (list_ext_rd hl (fun j h => hj j (by omega)))]
  | succ d ih =>
    intro k i hd hk hi hj
    obtain ⟨k, rfl⟩ : ∃ m, k = m + 1 := ⟨k - 1, by omega⟩
    simp only [spec_SameOid.l0]
    rw [if_pos (by omega), if_pos (by omega), if_pos (by omega), w64 (n := (i : Int) + 1) (by omega) (by omega), show ((i : Int) + 1) = ((i + 1 : Nat) : Int) by omega]
    by_cases h : rd a (i : Int) = rd b (i : Int)
    · rw [if_pos h, ih k (i + 1) (by omega) (by omega) (by omega) (fun j hj2 => by rcases Nat.lt_succ_iff_lt_or_eq.1 hj2 with h2 | rfl; exact hj j h2; exact h)]
    · rw [if_neg h, decide_eq_false (fun e => h (by rw [e]))]
theorem spec_SameOid_eq {a b : List Int} (hn : a.length ≤ 1099511627776) {k : Nat} (hk : a.length < k) : spec_SameOid.f k a b = some (decide (a = b)) := by
  unfold spec_SameOid.f
  by_cases hl : a.length = b.length
  · rw [if_pos (by omega)]
    exact spec_SameOid_l0 a b hl hn a.length k 0 (by omega) hk (by omega) (fun j h => by omega)
  · rw [if_neg (by omega), decide_eq_false (fun e => hl (by rw [e]))]
theorem shr7 (v : Int) : shr .i64 v 0 = v ∧ shr .i64 v 7 = v / 128 ∧ shr .i64 v 14 = v / 16384 := by
  refine ⟨?_, ?_, ?_⟩
  · show v / 1 = v; omega
  · rfl
  · rfl
theorem impl_PutOid_one {v : Int} (h0 : 0 ≤ v) (h1 : v ≤ 100000) (x o : List Int) (n i : Int) (hx : x.length ≤ 100000) (k : Nat) : ∃ k', k ≤ k' ∧ impl_PutOid.l1 (k + 6) x v 0 o n i = impl_PutOid.l0 k' (x ++ group v) o n (wrap64 (i + 1)) := by
  have s := shr7 v
  have w1 : wrap64 (0 + 1) = 1 := w64 (by omega) (by omega)
  have w2 : wrap64 (1 + 1) = 2 := w64 (by omega) (by omega)
  have w3 : wrap64 (2 - 1) = 1 := w64 (by omega) (by omega)
  have w4 : wrap64 (1 - 1) = 0 := w64 (by omega) (by omega)
  have e0 : wrap64 (7 * 0) = 0 := w64 (by omega) (by omega)
  have e1 : wrap64 (7 * 1) = 7 := w64 (by omega) (by omega)
  have e2 : wrap64 (7 * 2) = 14 := w64 (by omega) (by omega)
  have last : Go.bits .and .i64 v 127 % 256 = v % 128 := by rw [and127 h0 (by omega)]; omega
  have mid : ∀ y : Int, 0 ≤ y → y ≤ 100000 → wrap64 (Go.bits .and .i64 y 127 + 128) % 256 = y % 128 + 128 := by
    intro y hy hy2
    rw [and127 hy (by omega), w64 (by omega) (by omega)]; omega
  have A : ∀ (k : Nat) (x : List Int), x.length ≤ 200000 → impl_PutOid.l2 (k + 1) x v 0 o n i = impl_PutOid.l0 k (x ++ [v % 128]) o n (wrap64 (i + 1)) := by
    intro k x hx
    rw [impl_PutOid.l2, if_neg (by omega), if_pos (by omega), last]
  have A1 : ∀ (k : Nat) (x : List Int), x.length ≤ 150000 → impl_PutOid.l2 (k + 2) x v 1 o n i = impl_PutOid.l0 k (x ++ [v / 128 % 128 + 128, v % 128]) o n (wrap64 (i + 1)) := by
    intro k x hx
    rw [impl_PutOid.l2, e1, if_pos (by omega), if_pos (by omega), if_pos (by omega), s.2.1, mid _ (by omega) (by omega), w4, A _ _ (by rw [List.length_append]; simp only [List.length_cons, List.length_nil]; omega), List.append_assoc]
    rfl
  have A2 : ∀ (k : Nat) (x : List Int), x.length ≤ 100000 → impl_PutOid.l2 (k + 3) x v 2 o n i = impl_PutOid.l0 k (x ++ [v / 16384 % 128 + 128, v / 128 % 128 + 128, v % 128]) o n (wrap64 (i + 1)) := by
    intro k x hx
    rw [impl_PutOid.l2, e2, if_pos (by omega), if_pos (by omega), if_pos (by omega), s.2.2, mid _ (by omega) (by omega), w3, A1 _ _ (by rw [List.length_append]; simp only [List.length_cons, List.length_nil]; omega), List.append_assoc]
    rfl
  unfold group
  by_cases c1 : v < 128
  · rw [if_pos c1]
    refine ⟨k + 4, by omega, ?_⟩
    rw [impl_PutOid.l1, e0, if_pos (by omega), s.1, if_neg (by omega), A _ _ (by omega), show v % 128 = v by omega]
  · rw [if_neg c1]
    by_cases c2 : v < 16384
    · rw [if_pos c2]
      refine ⟨k + 2, by omega, ?_⟩
      rw [impl_PutOid.l1, e0, if_pos (by omega), s.1, if_pos (by omega), w1, impl_PutOid.l1, e1, if_pos (by omega), s.2.1, if_neg (by omega), A1 _ _ (by omega), show v / 128 % 128 = v / 128 by omega]
    · rw [if_neg c2, if_pos (by omega)]
      refine ⟨k, by omega, ?_⟩
      rw [impl_PutOid.l1, e0, if_pos (by omega), s.1, if_pos (by omega), w1, impl_PutOid.l1, e1, if_pos (by omega), s.2.1, if_pos (by omega), w2, impl_PutOid.l1, e2, if_pos (by omega), s.2.2, if_neg (by omega), A2 _ _ (by omega), show v / 16384 % 128 = v / 16384 by omega]
theorem impl_PutOid_l0 (o : List Int) (hn : o.length ≤ 10) (ho : ∀ n ∈ o, 0 ≤ n ∧ n ≤ 100000) (d : Nat) : ∀ (k i : Nat) (x : List Int), o.length - i = d → 7 * d < k → i ≤ o.length → x.length + 3 * d ≤ 1000 → impl_PutOid.l0 k x o (o.length : Int) (i : Int) = some (x ++ (o.drop i).flatMap group) := by
  induction d with
  | zero =>
    intro k i x hd hk hi hx
    obtain ⟨k, rfl⟩ : ∃ m, k = m + 1 := ⟨k - 1, by omega⟩
    simp only [impl_PutOid.l0]
    rw [if_neg (by omega), List.drop_of_length_le (by omega)]
    simp
  | succ d ih =>
    intro k i x hd hk hi hx
    obtain ⟨k, rfl⟩ : ∃ m, k = m + 6 + 1 := ⟨k - 7, by omega⟩
    have hm := ho (rd o (i : Int)) (by rw [rd_nat, List.getD_eq_getElem?_getD, List.getElem?_eq_getElem (show i < o.length by omega)]; exact List.getElem_mem _)
    have hg := group_len (rd o (i : Int))
    simp only [impl_PutOid.l0]
    rw [if_pos (by omega), if_pos (by omega), if_pos (by omega)]
    obtain ⟨k', hk', e⟩ := impl_PutOid_one hm.1 hm.2 x o (o.length : Int) (i : Int) (by omega) k
    rw [e, w64 (n := (i : Int) + 1) (by omega) (by omega), show ((i : Int) + 1) = ((i + 1 : Nat) : Int) by omega, ih k' (i + 1) _ (by omega) (by omega) (by omega) (by rw [List.length_append]; have := hg.2.2 (by omega); omega), drop_cons_rd (l := o) (n := i) (by omega), List.flatMap_cons, List.append_assoc]
theorem impl_PutOid_eq {o : List Int} (hn : o.length ≤ 1099511627776) {k : Nat} (hk : o.length + 80 ≤ k) : impl_PutOid.f k o = some (putOid o) := by
  unfold impl_PutOid.f putOid
  rw [impl_OidOk_eq hn (by omega), Option.bind_some]
  by_cases h : oidOk o = true
  · have hh := oidOk_iff.1 h
    rw [if_pos h, if_pos h]
    have := impl_PutOid_l0 o (by omega) hh.1 o.length k 0 [] (by omega) (by omega) (by omega) (by simp; omega)
    simpa using this
  · rw [if_neg h, if_neg h]
theorem spec_l2Group_eq {n : Int} (h : G4 n) {k : Nat} (hk : 5 ≤ k) : spec_l2Group.f k n = some (group n) := by
  unfold G4 at h
  obtain ⟨k, rfl⟩ : ∃ m, k = m + 5 := ⟨k - 5, by omega⟩
  have last : Go.bits .and .i64 n 127 % 256 = n % 128 := by rw [and127 h.1 (by omega)]; omega
  have mid : ∀ y : Int, 0 ≤ y → y ≤ 100000000 → Go.bits .or .i64 (Go.bits .and .i64 y 127) 128 % 256 = y % 128 + 128 := by
    intro y hy hy2
    rw [and127 hy (by omega), or128 (by omega) (by omega)]; omega
  unfold spec_l2Group.f group
  rw [last]
  by_cases c1 : n < 128
  · rw [spec_l2Group.l0, if_neg (by omega), if_pos c1, show n % 128 = n by omega]
  · rw [if_neg c1, spec_l2Group.l0, if_pos (by omega), Option.bind_some, if_pos (by simp only [List.length_cons, List.length_nil]; omega), mid _ (by omega) (by omega)]
    by_cases c2 : n < 16384
    · rw [if_pos c2, spec_l2Group.l0, if_neg (by omega), show n / 128 % 128 = n / 128 by omega]
      rfl
    · rw [if_neg c2, spec_l2Group.l0, if_pos (by omega), Option.bind_some, if_pos (by simp only [List.length_append, List.length_cons, List.length_nil]; omega), mid _ (by omega) (by omega)]
      by_cases c3 : n < 2097152
      · rw [if_pos c3, spec_l2Group.l0, if_neg (by omega), show n / 128 / 128 = n / 16384 by omega, show n / 16384 % 128 = n / 16384 by omega]
        rfl
      · rw [if_neg c3, spec_l2Group.l0, if_pos (by omega), Option.bind_some, if_pos (by simp only [List.length_append, List.length_cons, List.length_nil]; omega), mid _ (by omega) (by omega), spec_l2Group.l0, if_neg (by omega), show n / 128 / 128 = n / 16384 by omega, show n / 16384 / 128 = n / 2097152 by omega, show n / 2097152 % 128 = n / 2097152 by omega]
        rfl
theorem spec_PutOid_l0 (o : List Int) (hn : o.length ≤ 10) (ho : ∀ n ∈ o, 0 ≤ n ∧ n ≤ 100000) (d : Nat) : ∀ (k i : Nat) (x : List Int), o.length - i = d → d + 5 < k → i ≤ o.length → x.length + 3 * d ≤ 1000 → spec_PutOid.l0 k o x (i : Int) = some (x ++ (o.drop i).flatMap group) := by
  induction d with
  | zero =>
    intro k i x hd hk hi hx
    obtain ⟨k, rfl⟩ : ∃ m, k = m + 1 := ⟨k - 1, by omega⟩
    simp only [spec_PutOid.l0]
    rw [if_neg (by omega), List.drop_of_length_le (by omega)]
    simp
  | succ d ih =>
    intro k i x hd hk hi hx
    obtain ⟨k, rfl⟩ : ∃ m, k = m + 1 := ⟨k - 1, by omega⟩
    have hm := ho (rd o (i : Int)) (by rw [rd_nat, List.getD_eq_getElem?_getD, List.getElem?_eq_getElem (show i < o.length by omega)]; exact List.getElem_mem _)
    have hg := group_len (rd o (i : Int))
    simp only [spec_PutOid.l0]
    rw [if_pos (by omega), if_pos (by omega), spec_l2Group_eq (show G4 _ by unfold G4; omega) (by omega), Option.bind_some, if_pos (by omega), w64 (n := (i : Int) + 1) (by omega) (by omega), show ((i : Int) + 1) = ((i + 1 : Nat) : Int) by omega, ih k (i + 1) _ (by omega) (by omega) (by omega) (by rw [List.length_append]; have := hg.2.2 (by omega); omega), drop_cons_rd (l := o) (n := i) (by omega), List.flatMap_cons, List.append_assoc]
theorem spec_PutOid_eq {o : List Int} (hn : o.length ≤ 1099511627776) {k : Nat} (hk : o.length + 20 ≤ k) : spec_PutOid.f k o = some (putOid o) := by
  unfold spec_PutOid.f putOid
  rw [Option.bind_some, spec_OidOk_eq hn (by omega), Option.bind_some]
  by_cases h : oidOk o = true
  · have hh := oidOk_iff.1 h
    rw [if_pos h, if_pos h]
    have := spec_PutOid_l0 o (by omega) hh.1 o.length k 0 [] (by omega) (by omega) (by omega) (by simp; omega)
    simpa using this
  · rw [if_neg h, if_neg h]
theorem impl_GetOid_end {b o : List Int} (hB : B b) (ho : o.length ≤ 100) {k : Nat} (hk : 180 ≤ k) : ((impl_PutOid.f k o).bind fun t => if (t.length : Int) = 0 then some (([] : List Int), false) else if (strOfNums t).toList = (strOfNums b).toList then some (o, true) else some ([], false)) = some (if (putOid o).length = 0 then ([], false) else if putOid o = b then (o, true) else ([], false)) := by
  rw [impl_PutOid_eq (by omega) (by omega), Option.bind_some]
  by_cases h : (putOid o).length = 0
  · rw [if_pos (by omega), if_pos h]
  · rw [if_neg (by omega), if_neg h]
    by_cases h2 : putOid o = b
    · rw [if_pos ((str_inj (putOid_B o) hB).2 h2), if_pos h2]
    · rw [if_neg (fun e => h2 ((str_inj (putOid_B o) hB).1 e)), if_neg h2]
theorem impl_GetOid_l0 (b : List Int) (hB : B b) (hn : b.length ≤ 1099511627776) (d : Nat) : ∀ (k i : Nat) (x : List Int) (n : Int), 40 - i = d → d + 181 ≤ k → i ≤ 40 → i ≤ b.length → 0 ≤ n → n ≤ 268435455 → x.length ≤ i → dec 0 b = x ++ dec n (b.drop i) → impl_GetOid.l0 k b x n b (b.length : Int) (i : Int) = some (getOid b) := by
  induction d with
  | zero =>
    intro k i x n hd hk h4 hi h0 h1 hx hdec
    obtain ⟨k, rfl⟩ : ∃ m, k = m + 1 := ⟨k - 1, by omega⟩
    simp only [impl_GetOid.l0]
    by_cases hlt : i < b.length
    · rw [if_pos (by omega), if_pos (by omega), if_pos (by omega), if_pos (by omega), getOid_no]
      rintro ⟨o, ho, e⟩
      have := putOid_len o
      rw [e] at this
      omega
    · rw [List.drop_of_length_le (by omega)] at hdec
      simp only [dec, List.append_nil] at hdec
      rw [if_neg (by omega), impl_GetOid_end hB (by omega) (by omega), getOid_dec, hdec]
  | succ d ih =>
    intro k i x n hd hk h4 hi h0 h1 hx hdec
    obtain ⟨k, rfl⟩ : ∃ m, k = m + 1 := ⟨k - 1, by omega⟩
    simp only [impl_GetOid.l0]
    by_cases hlt : i < b.length
    · have hb := hB.at_ (i : Int)
      have hm : 0 ≤ mn n 1048576 ∧ mn n 1048576 ≤ 1048576 := by unfold mn; omega
      rw [drop_cons_rd hlt] at hdec
      simp only [dec] at hdec
      rw [if_pos (by omega), if_pos (by omega), if_pos (by omega), if_neg (by omega), and127_u8 hb.1 hb.2, w64 (n := mn n 1048576 * 128) (by omega) (by omega), w64 (n := rd b (i : Int) % 128) (by omega) (by omega), or_seven hm.1 (by omega) (by omega) (by omega), w64 (n := (i : Int) + 1) (by omega) (by omega), show ((i : Int) + 1) = ((i + 1 : Nat) : Int) by omega]
      by_cases hs : rd b (i : Int) < 128
      · rw [if_pos hs] at hdec ⊢
        rw [if_pos (by omega)]
        exact ih k (i + 1) _ 0 (by omega) (by omega) (by omega) (by omega) (by omega) (by omega) (by rw [List.length_append, List.length_cons, List.length_nil]; omega) (by rw [hdec, List.append_assoc]; rfl)
      · rw [if_neg hs] at hdec ⊢
        exact ih k (i + 1) _ _ (by omega) (by omega) (by omega) (by omega) (by omega) (by omega) (by omega) hdec
    · rw [List.drop_of_length_le (by omega)] at hdec
      simp only [dec, List.append_nil] at hdec
      rw [if_neg (by omega), impl_GetOid_end hB (by omega) (by omega), getOid_dec, hdec]
theorem impl_GetOid_eq {b : List Int} (hB : B b) (hn : b.length ≤ 1099511627776) {k : Nat} (hk : 230 ≤ k) : impl_GetOid.f k b = some (getOid b) := by
  unfold impl_GetOid.f
  exact impl_GetOid_l0 b hB hn 40 k 0 [] 0 (by omega) (by omega) (by omega) (by omega) (by omega) (by omega) (by simp) (by simp)
theorem spec_GetOid_l1 (b x : List Int) (hB : B b) (hn : b.length ≤ 1099511627776) (hx : x.length ≤ 100) (d : Nat) : ∀ (K s a : Nat) (n : Int), 4 - s = d → s ≤ 4 → a ≤ b.length → d + 7 ≤ K → 0 ≤ n → (s ≤ 3 → n < 2097152) → (s ≤ 2 → n < 16384) → (s ≤ 1 → n < 128) → (s = 0 → n = 0) →
    spec_GetOid.l1 K b x (a : Int) n (s : Int) true = match readG d n (b.drop a) with
      | none => some ([], false)
      | some p => if (group p.1).length = s + p.2 then spec_GetOid.l0 (K - p.2 - 1) b (x ++ [p.1]) ((a + p.2 : Nat) : Int) else some ([], false) := by
  induction d with
  | zero =>
    intro K s a n hd hs ha hK h0 _ _ _ _
    obtain ⟨K, rfl⟩ : ∃ m, K = m + 1 := ⟨K - 1, by omega⟩
    rw [spec_GetOid.l1, if_pos rfl]
    simp only [readG]
    by_cases h : (a : Int) < b.length
    · rw [if_pos h, if_neg (by omega)]
    · rw [if_neg h]
  | succ d ih =>
    intro K s a n hd hs ha hK h0 g3 g2 g1 g0
    obtain ⟨K, rfl⟩ : ∃ m, K = m + 1 := ⟨K - 1, by omega⟩
    rw [spec_GetOid.l1, if_pos rfl]
    by_cases h : a < b.length
    · have hb := hB.at_ (a : Int)
      have g3' := g3 (by omega)
      rw [if_pos (by omega), if_pos (by omega), if_pos (by omega), and127_u8 hb.1 hb.2, w64 (n := n * 128) (by omega) (by omega), w64 (n := rd b (a : Int) % 128) (by omega) (by omega), or_seven h0 (by omega) (by omega) (by omega), w64 (n := (a : Int) + 1) (by omega) (by omega), w64 (n := (s : Int) + 1) (by omega) (by omega), show ((a : Int) + 1) = ((a + 1 : Nat) : Int) by omega, show ((s : Int) + 1) = ((s + 1 : Nat) : Int) by omega, drop_cons_rd h]
      simp only [readG]
      by_cases hc : rd b (a : Int) > 127
      · rw [decide_eq_true hc, if_pos hc, ih K (s + 1) (a + 1) _ (by omega) (by omega) (by omega) (by omega) (by omega) (by omega) (by omega) (by omega) (by omega)]
        cases readG d (n * 128 + rd b (a : Int) % 128) (b.drop (a + 1)) with
        | none => rfl
        | some p =>
          simp only
          rw [show s + 1 + p.2 = s + (p.2 + 1) by omega, show a + 1 + p.2 = a + (p.2 + 1) by omega, show K - p.2 - 1 = K + 1 - (p.2 + 1) - 1 by omega]
      · rw [decide_eq_false hc, if_neg hc]
        obtain ⟨K, rfl⟩ : ∃ m, K = m + 1 := ⟨K - 1, by omega⟩
        rw [spec_GetOid.l1, if_neg (by decide), spec_l2Group_eq (show G4 _ by unfold G4; omega) (by omega), Option.bind_some]
        simp only
        by_cases hl : (group (n * 128 + rd b (a : Int) % 128)).length = s + 1
        · rw [if_pos (by omega), if_pos (by omega), if_pos hl]
          rfl
        · rw [if_neg (by omega), if_neg hl]
    · rw [if_neg (by omega), List.drop_of_length_le (by omega)]
      rfl
theorem spec_GetOid_l0 (b : List Int) (hB : B b) (hn : b.length ≤ 1099511627776) (d : Nat) : ∀ (e K a : Nat) (x : List Int), e ≤ d → b.length - a = e → 4 * e + 30 ≤ K → a ≤ b.length → x.length ≤ 11 → (∀ v ∈ x, G4 v) → b.take a = x.flatMap group → spec_GetOid.l0 K b x (a : Int) = some (getOid b) := by
  have no : ∀ (a : Nat) (x : List Int), (∀ v ∈ x, G4 v) → b.take a = x.flatMap group → ∀ o, oidOk o = true → putOid o = b → ∃ t, o = x ++ t ∧ b.drop a = t.flatMap group := by
    intro a x hx ht o ho e
    rw [putOid_flat ho] at e
    exact flat_prefix x o (b.drop a) hx (oidOk_G4 ho) (by rw [← ht, List.take_append_drop, e])
  induction d with
  | zero =>
    intro e K a x he hd hK ha hx hg ht
    obtain ⟨K, rfl⟩ : ∃ m, K = m + 1 + 1 := ⟨K - 2, by omega⟩
    rw [spec_GetOid.l0, if_neg (by omega), spec_GetOid.j1, if_neg (by decide), if_pos (by omega), spec_OidOk_eq (by omega) (by omega), Option.bind_some]
    rw [List.take_of_length_le (by omega)] at ht
    by_cases hok : oidOk x = true
    · rw [if_pos hok, show b = putOid x by rw [putOid_flat hok, ht], getOid_put hok]
    · rw [if_neg hok, getOid_no]
      rintro ⟨o, ho, e⟩
      obtain ⟨t, rfl, h2⟩ := no b.length x hg (by rw [List.take_length, ht]) o ho e
      rw [List.drop_length] at h2
      cases t with
      | nil => rw [List.append_nil] at ho; exact hok ho
      | cons w t => have := (group_len w).1; have h3 := congrArg List.length h2; simp only [List.length_nil, List.flatMap_cons, List.length_append] at h3; omega
  | succ d ih =>
    intro e K a x he hd hK ha hx hg ht
    by_cases hz : e ≤ d
    · exact ih e K a x hz hd hK ha hx hg ht
    · obtain ⟨K, rfl⟩ : ∃ m, K = m + 1 + 1 := ⟨K - 2, by omega⟩
      have hlt : a < b.length := by omega
      rw [spec_GetOid.l0, if_pos (by omega)]
      by_cases hx10 : x.length ≤ 10
      · rw [decide_eq_true (by omega), spec_GetOid.j1, if_pos rfl]
        have h1 := spec_GetOid_l1 b x hB hn (by omega) 4 K 0 a 0 (by omega) (by omega) (by omega) (by omega) (by omega) (by omega) (by omega) (by omega) (by omega)
        rw [show ((0 : Nat) : Int) = 0 from rfl] at h1
        rw [h1]
        cases hr : readG 4 0 (b.drop a) with
        | none =>
          simp only
          rw [getOid_no]
          rintro ⟨o, ho, e⟩
          obtain ⟨t, rfl, h2⟩ := no a x hg ht o ho e
          cases t with
          | nil => have h3 := congrArg List.length h2; simp only [List.length_drop, List.flatMap_nil, List.length_nil] at h3; omega
          | cons w t => rw [h2, List.flatMap_cons, readG_group (oidOk_G4 ho w (by simp))] at hr; simp at hr
        | some p =>
          obtain ⟨v, c⟩ := p
          have hi := readG_inv (hB.drop a) hr
          rw [List.length_drop] at hi
          simp only
          by_cases hl : (group v).length = 0 + c
          · rw [if_pos hl]
            have hdv := hi.2.2.2.2 (by omega)
            refine ih (b.length - (a + c)) _ (a + c) (x ++ [v]) (by omega) rfl (by omega) (by omega) (by rw [List.length_append, List.length_cons, List.length_nil]; omega) (fun u hu => ?_) ?_
            · rcases List.mem_append.1 hu with hu | hu
              · exact hg u hu
              · rw [List.mem_singleton.1 hu]; exact hi.1
            · rw [List.take_add, ht, hdv, List.take_append_of_le_length (by omega), List.take_of_length_le (by omega), List.flatMap_append]
              simp
          · rw [if_neg hl, getOid_no]
            rintro ⟨o, ho, e⟩
            obtain ⟨t, rfl, h2⟩ := no a x hg ht o ho e
            cases t with
            | nil => have h3 := congrArg List.length h2; simp only [List.length_drop, List.flatMap_nil, List.length_nil] at h3; omega
            | cons w t =>
              rw [h2, List.flatMap_cons, readG_group (oidOk_G4 ho w (by simp))] at hr
              simp only [Option.some.injEq, Prod.mk.injEq] at hr
              obtain ⟨rfl, rfl⟩ := hr
              omega
      · rw [decide_eq_false (by omega), spec_GetOid.j1, if_neg (by decide), if_neg (by omega), getOid_no]
        rintro ⟨o, ho, e⟩
        obtain ⟨t, rfl, h2⟩ := no a x hg ht o ho e
        have := (oidOk_iff.1 ho).2.2
        rw [List.length_append] at this
        omega
theorem spec_GetOid_eq {b : List Int} (hB : B b) (hn : b.length ≤ 1099511627776) {k : Nat} (hk : 4 * b.length + 30 ≤ k) : spec_GetOid.f k b = some (getOid b) := by
  unfold spec_GetOid.f
  exact spec_GetOid_l0 b hB hn b.length b.length k 0 [] (by omega) (by omega) hk (by omega) (by simp) (by simp) (by simp)
theorem impl_SameVal_eq (k1 n1 : Int) (s1 : ByteArray) {o1 : List Int} (k2 n2 : Int) (s2 : ByteArray) (o2 : List Int) (hn : o1.length ≤ 1099511627776) {k : Nat} (hk : o1.length < k) : impl_SameVal.f k k1 n1 s1 o1 k2 n2 s2 o2 = some (decide (k1 = k2 ∧ n1 = n2 ∧ s1 = s2 ∧ o1 = o2)) := by
  unfold impl_SameVal.f
  rw [impl_SameOid_eq hn hk, Option.bind_some]
  by_cases h1 : k1 = k2
  · by_cases h2 : n1 = n2
    · by_cases h3 : s1 = s2
      · rw [if_pos h1, if_pos h2, if_pos (str_eq.2 h3)]
        congr 1; exact decide_eq_decide.2 (by simp [h1, h2, h3])
      · rw [if_pos h1, if_pos h2, if_neg (fun e => h3 (str_eq.1 e)), decide_eq_false (fun e => h3 e.2.2.1)]
    · rw [if_pos h1, if_neg h2, decide_eq_false (fun e => h2 e.2.1)]
  · rw [if_neg h1, decide_eq_false (fun e => h1 e.1)]
theorem spec_SameVal_eq (k1 n1 : Int) (s1 : ByteArray) {o1 : List Int} (k2 n2 : Int) (s2 : ByteArray) (o2 : List Int) (hn : o1.length ≤ 1099511627776) {k : Nat} (hk : o1.length < k) : spec_SameVal.f k k1 n1 s1 o1 k2 n2 s2 o2 = some (decide (k1 = k2 ∧ n1 = n2 ∧ s1 = s2 ∧ o1 = o2)) := by
  unfold spec_SameVal.f
  rw [spec_SameOid_eq hn hk, Option.bind_some]
  by_cases h1 : k1 = k2
  · by_cases h2 : n1 = n2
    · by_cases h3 : s1 = s2
      · rw [if_pos h1, if_pos h2, if_pos (str_eq.2 h3)]
        congr 1; exact decide_eq_decide.2 (by simp [h1, h2, h3])
      · rw [if_pos h1, if_pos h2, if_neg (fun e => h3 (str_eq.1 e)), decide_eq_false (fun e => h3 e.2.2.1)]
    · rw [if_pos h1, if_neg h2, decide_eq_false (fun e => h2 e.2.1)]
  · rw [if_neg h1, decide_eq_false (fun e => h1 e.1)]
theorem bin_iff {a b : Bool} (h : a = true ↔ b = true) : a = b := Bool.eq_iff_iff.2 h
theorem size_iff (s : ByteArray) : s = (⟨#[]⟩ : ByteArray) ↔ s.size = 0 := ⟨fun h => by rw [h]; rfl, size0⟩
theorem impl_ValOk_eq (k1 n : Int) (s : ByteArray) {o : List Int} (hn : o.length ≤ 1099511627776) {k : Nat} (hk : o.length < k) : impl_ValOk.f k k1 n s o = some (valOk k1 n s o) := by
  unfold impl_ValOk.f valOk impl_isInt.f
  by_cases e1 : k1 = 2
  · rw [if_pos e1, if_pos e1, impl_in_eq, Option.bind_some, Option.bind_some]
    by_cases h : -2147483648 ≤ n ∧ n ≤ 2147483647
    · rw [if_pos (decide_eq_true h), impl_SameVal_eq _ _ _ _ _ _ _ hn hk, Option.bind_some]
      congr 1; exact decide_eq_decide.2 ⟨fun e => ⟨h.1, h.2, (size_iff s).1 e.2.2.1, by rw [e.2.2.2]; rfl⟩, fun e => ⟨rfl, rfl, size0 e.2.2.1, List.length_eq_zero_iff.1 e.2.2.2⟩⟩
    · rw [if_neg (by simpa using h), decide_eq_false (by omega)]
  · rw [if_neg e1, if_neg e1]
    by_cases e2 : k1 = 4
    · rw [if_pos e2, if_pos e2]
      by_cases h : (s.size : Int) ≤ 20
      · rw [if_pos h, impl_SameVal_eq _ _ _ _ _ _ _ hn hk, Option.bind_some]
        congr 1; exact decide_eq_decide.2 (by rw [← List.length_eq_zero_iff]; simp; omega)
      · rw [if_neg h, decide_eq_false (by omega)]
    · rw [if_neg e2, if_neg e2]
      by_cases e3 : k1 = 6
      · rw [if_pos e3, if_pos e3, impl_OidOk_eq hn hk, Option.bind_some]
        cases ok : oidOk o with
        | true =>
          rw [if_pos rfl, impl_SameVal_eq _ _ _ _ _ _ _ hn hk, Option.bind_some, Bool.true_and]
          congr 1; exact decide_eq_decide.2 (by rw [size_iff]; simp)
        | false => rw [if_neg (by decide), Bool.false_and]
      · rw [if_neg e3, if_neg e3]
        have fin : (impl_SameVal.f k k1 n s o k1 0 (⟨#[]⟩ : ByteArray) ([] : List Int)).bind (fun t => some t) = some (decide (n = 0 ∧ s.size = 0 ∧ o.length = 0)) := by
          rw [impl_SameVal_eq _ _ _ _ _ _ _ hn hk, Option.bind_some]
          congr 1; exact decide_eq_decide.2 (by rw [size_iff, ← List.length_eq_zero_iff]; simp)
        by_cases e4 : k1 = 5
        · rw [if_pos e4, if_pos (.inl e4), fin]
        · rw [if_neg e4]
          by_cases e5 : k1 = 128
          · rw [if_pos e5, if_pos (.inr (.inl e5)), fin]
          · rw [if_neg e5]
            by_cases e6 : k1 = 130
            · rw [if_pos e6, if_pos (.inr (.inr e6)), fin]
            · rw [if_neg e6, if_neg (by omega)]
theorem spec_ValOk_eq (k1 n : Int) (s : ByteArray) {o : List Int} (hn : o.length ≤ 1099511627776) {k : Nat} (hk : o.length + 1 < k) : spec_ValOk.f k k1 n s o = some (valOk k1 n s o) := by
  obtain ⟨k, rfl⟩ : ∃ m, k = m + 1 := ⟨k - 1, by omega⟩
  have yes : ∀ q, (k1 = 5 ∨ k1 = 128 ∨ k1 = 130) → spec_ValOk.j0 (k + 1) q true k1 n s o = some (valOk k1 n s o) := by
    intro q h
    have hv : valOk k1 n s o = decide (n = 0 ∧ s.size = 0 ∧ o.length = 0) := by
      unfold valOk
      rw [if_neg (by omega), if_neg (by omega), if_neg (by omega), if_pos h]
    rw [spec_ValOk.j0, if_pos rfl, hv]
    by_cases h1 : n = 0
    · rw [if_pos h1]
      by_cases h2 : s.toList = []
      · rw [if_pos h2]
        have := size_iff s
        congr 1; exact bin_iff (by rw [beq_iff_eq, decide_eq_true_iff]; exact ⟨fun e => ⟨h1, this.1 (toList_nil.1 h2), by omega⟩, fun e => by omega⟩)
      · rw [if_neg h2, decide_eq_false (fun e => h2 (toList_nil.2 (size0 e.2.1)))]
    · rw [if_neg h1, decide_eq_false (fun e => h1 e.1)]
  unfold spec_ValOk.f
  by_cases e1 : k1 = 5
  · rw [if_pos e1, beq_iff_eq.2 e1, yes _ (.inl e1)]
  · rw [if_neg e1]
    by_cases e2 : k1 = 128
    · rw [if_pos e2, beq_iff_eq.2 e2, yes _ (.inr (.inl e2))]
    · rw [if_neg e2]
      by_cases e3 : k1 = 130
      · rw [beq_iff_eq.2 e3, yes _ (.inr (.inr e3))]
      · rw [beq_eq_false_iff_ne.2 e3, spec_ValOk.j0, if_neg (by decide)]
        unfold valOk
        by_cases c1 : k1 = 2
        · rw [if_pos c1, if_pos c1, spec_l1Clip_eq, Option.bind_some]
          by_cases h1 : clip n = n
          · have hr := clip_range n
            rw [if_pos h1]
            by_cases h2 : s.toList = []
            · rw [if_pos h2]
              have := size_iff s
              congr 1; exact bin_iff (by rw [beq_iff_eq, decide_eq_true_iff]; exact ⟨fun e => ⟨by omega, by omega, this.1 (toList_nil.1 h2), by omega⟩, fun e => by omega⟩)
            · rw [if_neg h2, decide_eq_false (fun e => h2 (toList_nil.2 (size0 e.2.2.1)))]
          · rw [if_neg h1, decide_eq_false (fun e => h1 (clip_of e.1 e.2.1))]
        · rw [if_neg c1, if_neg c1]
          by_cases c2 : k1 = 4
          · rw [if_pos c2, if_pos c2]
            by_cases h1 : (s.size : Int) ≤ 20
            · rw [if_pos h1]
              by_cases h2 : n = 0
              · rw [if_pos h2]
                congr 1; exact bin_iff (by rw [beq_iff_eq, decide_eq_true_iff]; omega)
              · rw [if_neg h2, decide_eq_false (by omega)]
            · rw [if_neg h1, decide_eq_false (by omega)]
          · rw [if_neg c2, if_neg c2]
            by_cases c3 : k1 = 6
            · rw [if_pos c3, if_pos c3, spec_OidOk_eq hn (by omega), Option.bind_some]
              cases ok : oidOk o with
              | true =>
                rw [if_pos rfl, Bool.true_and]
                by_cases h2 : n = 0
                · rw [if_pos h2]
                  congr 1; exact bin_iff (by rw [beq_iff_eq, decide_eq_true_iff]; exact ⟨fun e => ⟨h2, (size_iff s).1 (toList_nil.1 e)⟩, fun e => toList_nil.2 (size0 e.2)⟩)
                · rw [if_neg h2, decide_eq_false (by omega)]
              | false => rw [if_neg (by decide), Bool.false_and]
            · rw [if_neg c3, if_neg c3, if_neg (by omega)]
theorem impl_PutVal_eq {p : List Int} (hp : p.length ≤ 1000000000000) (k1 n : Int) (s : ByteArray) {o : List Int} (hn : o.length ≤ 1099511627776) {k : Nat} (hk : o.length + 80 ≤ k) : impl_PutVal.f k p k1 n s o = some (putVal p k1 n s o) := by
  unfold impl_PutVal.f
  rw [impl_ValOk_eq k1 n s hn (by omega), Option.bind_some]
  cases ok : valOk k1 n s o with
  | false =>
    rw [if_neg (by decide), impl_copyBytes_eq (by omega), Option.bind_some]
    unfold putVal
    rw [ok]; rfl
  | true =>
    have hv := valOk_kind ok
    have ht := putVal_tlv (p := p) ok
    rw [if_pos rfl]
    unfold valBody at hv ht
    by_cases e1 : k1 = 2
    · rw [if_pos e1] at hv ht
      rw [if_pos e1, impl_PutInt_eq n (by omega), Option.bind_some, impl_PutTlv_eq _ (by omega) (by omega) (by omega), Option.bind_some, ht]
    · rw [if_neg e1] at hv ht
      rw [if_neg e1]
      by_cases e2 : k1 = 4
      · rw [if_pos e2] at hv ht
        have := bytesOf_len s
        rw [if_pos e2, if_pos (by omega), impl_PutTlv_eq _ (by omega) (by omega) (by omega), Option.bind_some, ht]
      · rw [if_neg e2] at hv ht
        rw [if_neg e2]
        by_cases e3 : k1 = 6
        · rw [if_pos e3] at hv ht
          rw [if_pos e3, impl_PutOid_eq hn (by omega), Option.bind_some, impl_PutTlv_eq _ (by omega) (by omega) (by omega), Option.bind_some, ht]
        · rw [if_neg e3] at hv ht
          rw [if_neg e3, impl_PutTlv_eq _ (by omega) (by simp) (by omega), Option.bind_some, ht]
theorem spec_PutVal_eq {p : List Int} (hp : p.length ≤ 1000000000000) (k1 n : Int) (s : ByteArray) {o : List Int} (hn : o.length ≤ 1099511627776) {k : Nat} (hk : o.length + 30 ≤ k) : spec_PutVal.f k p k1 n s o = some (putVal p k1 n s o) := by
  unfold spec_PutVal.f
  rw [spec_ValOk_eq k1 n s hn (by omega), Option.bind_some]
  cases ok : valOk k1 n s o with
  | false =>
    rw [if_neg (by decide), Option.bind_some, if_pos (by simp only [List.length_nil]; omega)]
    unfold putVal
    rw [ok]; rfl
  | true =>
    have hv := valOk_kind ok
    have ht := putVal_tlv (p := p) ok
    rw [if_pos rfl]
    unfold valBody at hv ht
    by_cases e1 : k1 = 2
    · rw [if_pos e1] at hv ht
      rw [if_pos e1, spec_PutInt_eq n (by omega), Option.bind_some, spec_PutTlv_eq _ (by omega) (by omega) (by omega), Option.bind_some, ht]
    · rw [if_neg e1] at hv ht
      rw [if_neg e1]
      by_cases e2 : k1 = 4
      · rw [if_pos e2] at hv ht
        have := bytesOf_len s
        rw [if_pos e2, if_pos (by omega), spec_PutTlv_eq _ (by omega) (by omega) (by omega), Option.bind_some, ht]
      · rw [if_neg e2] at hv ht
        rw [if_neg e2]
        by_cases e3 : k1 = 6
        · rw [if_pos e3] at hv ht
          rw [if_pos e3, spec_PutOid_eq hn (by omega), Option.bind_some, spec_PutTlv_eq _ (by omega) (by omega) (by omega), Option.bind_some, ht]
        · rw [if_neg e3] at hv ht
          rw [if_neg e3, spec_PutTlv_eq _ (by omega) (by simp) (by omega), Option.bind_some, ht]
theorem valOk_int (n : Int) : valOk 2 n (⟨#[]⟩ : ByteArray) [] = decide (-2147483648 ≤ n ∧ n ≤ 2147483647) := by
  unfold valOk; rw [if_pos rfl]; exact decide_eq_decide.2 ⟨fun h => ⟨h.1, h.2.1⟩, fun h => ⟨h.1, h.2, rfl, rfl⟩⟩
theorem valOk_oid (o : List Int) : valOk 6 0 (⟨#[]⟩ : ByteArray) o = oidOk o := by
  unfold valOk; rw [if_neg (by decide), if_neg (by decide), if_pos rfl, show decide ((0 : Int) = 0 ∧ (⟨#[]⟩ : ByteArray).size = 0) = true from rfl, Bool.and_true]
theorem valOk_text (b : List Int) : valOk 4 0 (strOfNums b) [] = decide (b.length ≤ 20) := by
  unfold valOk; rw [if_neg (by decide), if_pos rfl, strOfNums_size]; exact decide_eq_decide.2 ⟨fun h => h.1, fun h => ⟨h, rfl, rfl⟩⟩
theorem ite_told {c : Prop} [Decidable c] (h : c) {t e : Int} : (if (if c then (t, (0 : Int), (⟨#[]⟩ : ByteArray), ([] : List Int), true) else (0, 0, (⟨#[]⟩ : ByteArray), [], false)).2.2.2.2 = true then ((if c then (t, (0 : Int), (⟨#[]⟩ : ByteArray), ([] : List Int), true) else (0, 0, (⟨#[]⟩ : ByteArray), [], false)).1, (if c then (t, (0 : Int), (⟨#[]⟩ : ByteArray), ([] : List Int), true) else (0, 0, (⟨#[]⟩ : ByteArray), [], false)).2.1, (if c then (t, (0 : Int), (⟨#[]⟩ : ByteArray), ([] : List Int), true) else (0, 0, (⟨#[]⟩ : ByteArray), [], false)).2.2.1, (if c then (t, (0 : Int), (⟨#[]⟩ : ByteArray), ([] : List Int), true) else (0, 0, (⟨#[]⟩ : ByteArray), [], false)).2.2.2.1, e, true) else ((0 : Int), (0 : Int), (⟨#[]⟩ : ByteArray), ([] : List Int), (0 : Int), false)) = (t, 0, (⟨#[]⟩ : ByteArray), [], e, true) := by
  simp [h]
theorem ite_untold {c : Prop} [Decidable c] (h : ¬ c) {t e : Int} : (if (if c then (t, (0 : Int), (⟨#[]⟩ : ByteArray), ([] : List Int), true) else (0, 0, (⟨#[]⟩ : ByteArray), [], false)).2.2.2.2 = true then ((if c then (t, (0 : Int), (⟨#[]⟩ : ByteArray), ([] : List Int), true) else (0, 0, (⟨#[]⟩ : ByteArray), [], false)).1, (if c then (t, (0 : Int), (⟨#[]⟩ : ByteArray), ([] : List Int), true) else (0, 0, (⟨#[]⟩ : ByteArray), [], false)).2.1, (if c then (t, (0 : Int), (⟨#[]⟩ : ByteArray), ([] : List Int), true) else (0, 0, (⟨#[]⟩ : ByteArray), [], false)).2.2.1, (if c then (t, (0 : Int), (⟨#[]⟩ : ByteArray), ([] : List Int), true) else (0, 0, (⟨#[]⟩ : ByteArray), [], false)).2.2.2.1, e, true) else ((0 : Int), (0 : Int), (⟨#[]⟩ : ByteArray), ([] : List Int), (0 : Int), false)) = (0, 0, (⟨#[]⟩ : ByteArray), [], 0, false) := by
  simp [h]
theorem impl_GetVal_eq {l : List Int} (hB : B l) (hl : l.length ≤ 1000000000000) {a : Int} (ha : -9223372036854775808 ≤ a ∧ a ≤ 9223372036854775807) {k : Nat} (hk : 300 ≤ k) : impl_GetVal.f k l a = some (getVal l a) := by
  unfold impl_GetVal.f getVal
  rw [impl_GetTlv_eq hB (by omega) ha, Option.bind_some]
  unfold tlv4
  cases ht : tlvAt l a with
  | none => dsimp only; rw [if_neg (by decide)]
  | some x =>
    obtain ⟨t, b, e⟩ := x
    have hr := tlvAt_range hB ht
    dsimp only
    rw [if_pos rfl]
    unfold tellVal
    by_cases e1 : t = 2
    · subst e1
      rw [if_pos rfl, if_pos rfl, impl_GetInt_eq hr.2.2.2.1 (by omega) (by omega), Option.bind_some]
      cases g : (getInt b).2 with
      | false => rw [if_neg (by decide)]; rfl
      | true =>
        have gb := getInt_bytes hr.2.2.2.1 (v := (getInt b).1) (by rw [← g])
        rw [if_pos rfl, impl_ValOk_eq _ _ _ (by simp) (by simp; omega), Option.bind_some, valOk_int, if_pos (decide_eq_true ⟨gb.2.1, gb.2.2⟩)]; rfl
    · rw [if_neg e1, if_neg e1]
      by_cases e2 : t = 4
      · subst e2
        rw [if_pos rfl, if_pos rfl, impl_ValOk_eq _ _ _ (by simp) (by simp; omega), Option.bind_some, valOk_text]
        by_cases h : b.length ≤ 20
        · rw [if_pos (decide_eq_true h), if_pos h]; rfl
        · rw [if_neg (by simpa using h), if_neg h]; rfl
      · rw [if_neg e2, if_neg e2]
        by_cases e3 : t = 6
        · subst e3
          rw [if_pos rfl, if_pos rfl, impl_GetOid_eq hr.2.2.2.1 (by omega) (by omega), Option.bind_some]
          cases g : (getOid b).2 with
          | false => rw [if_neg (by decide)]; rfl
          | true =>
            have gb := getOid_bytes (b := b) (o := (getOid b).1) (by rw [← g])
            have gl := getOid_len b
            rw [if_pos rfl, impl_ValOk_eq _ _ _ (by omega) (by omega), Option.bind_some, valOk_oid, gb.1, if_pos rfl]; rfl
        · rw [if_neg e3, if_neg e3]
          by_cases h : b.length = 0
          · rw [if_pos (by omega), impl_ValOk_eq _ _ _ (by simp) (by simp; omega), Option.bind_some]
            unfold valOk
            rw [if_neg e1, if_neg e2, if_neg e3]
            by_cases e4 : t = 5 ∨ t = 128 ∨ t = 130
            · rw [if_pos e4, if_pos (by decide), ite_told (show b.length = 0 ∧ (t = 5 ∨ t = 128 ∨ t = 130) from ⟨h, e4⟩)]
            · rw [if_neg e4, if_neg (by decide), ite_untold (show ¬ (b.length = 0 ∧ (t = 5 ∨ t = 128 ∨ t = 130)) from fun z => e4 z.2)]
          · rw [if_neg (by omega), ite_untold (show ¬ (b.length = 0 ∧ (t = 5 ∨ t = 128 ∨ t = 130)) from fun z => h z.1)]
theorem spec_GetVal_eq {l : List Int} (hB : B l) (hl : l.length ≤ 1000000000000) {a : Int} (ha : -9223372036854775808 ≤ a ∧ a ≤ 9223372036854775807) {k : Nat} (hk : 1100 ≤ k) : spec_GetVal.f k l a = some (getVal l a) := by
  unfold spec_GetVal.f getVal
  rw [spec_GetTlv_eq hB (by omega) ha, Option.bind_some]
  unfold tlv4
  cases ht : tlvAt l a with
  | none =>
    dsimp only
    rw [if_neg (by decide), if_neg (by decide), if_neg (by decide), if_neg (by decide)]
  | some x =>
    obtain ⟨t, b, e⟩ := x
    have hr := tlvAt_range hB ht
    dsimp only
    unfold tellVal
    by_cases e1 : t = 2
    · subst e1
      rw [if_pos rfl, if_pos rfl, spec_GetInt_eq hr.2.2.2.1 (by omega) (by omega), Option.bind_some, if_pos rfl]
      cases g : (getInt b).2 with
      | false => rw [if_neg (by decide)]; rfl
      | true =>
        have gb := getInt_bytes hr.2.2.2.1 (v := (getInt b).1) (by rw [← g])
        rw [if_pos rfl, spec_ValOk_eq _ _ _ (by simp) (by simp; omega), Option.bind_some, valOk_int, if_pos (decide_eq_true ⟨gb.2.1, gb.2.2⟩)]; rfl
    · rw [if_neg e1, if_neg e1]
      by_cases e2 : t = 4
      · subst e2
        rw [if_pos rfl, if_pos rfl, if_pos rfl, spec_ValOk_eq _ _ _ (by simp) (by simp; omega), Option.bind_some, valOk_text]
        by_cases h : b.length ≤ 20
        · rw [if_pos (decide_eq_true h), if_pos h]; rfl
        · rw [if_neg (by simpa using h), if_neg h]; rfl
      · rw [if_neg e2, if_neg e2]
        by_cases e3 : t = 6
        · subst e3
          rw [if_pos rfl, if_pos rfl, spec_GetOid_eq hr.2.2.2.1 (by omega) (by omega), Option.bind_some, if_pos rfl]
          cases g : (getOid b).2 with
          | false => rw [if_neg (by decide)]; rfl
          | true =>
            have gb := getOid_bytes (b := b) (o := (getOid b).1) (by rw [← g])
            have gl := getOid_len b
            rw [if_pos rfl, spec_ValOk_eq _ _ _ (by omega) (by omega), Option.bind_some, valOk_oid, gb.1, if_pos rfl]; rfl
        · rw [if_neg e3, if_neg e3, if_pos rfl]
          by_cases h : b.length = 0
          · rw [if_pos (by omega), spec_ValOk_eq _ _ _ (by simp) (by simp; omega), Option.bind_some]
            unfold valOk
            rw [if_neg e1, if_neg e2, if_neg e3]
            by_cases e4 : t = 5 ∨ t = 128 ∨ t = 130
            · rw [if_pos e4, if_pos (by decide), ite_told (show b.length = 0 ∧ (t = 5 ∨ t = 128 ∨ t = 130) from ⟨h, e4⟩)]
            · rw [if_neg e4, if_neg (by decide), ite_untold (show ¬ (b.length = 0 ∧ (t = 5 ∨ t = 128 ∨ t = 130)) from fun z => e4 z.2)]
          · rw [if_neg (by omega), ite_untold (show ¬ (b.length = 0 ∧ (t = 5 ∨ t = 128 ∨ t = 130)) from fun z => h z.1)]
theorem spec_l1Str_eq {l : List Int} (hl : l.length ≤ 1099511627776) {i : Int} (h0 : 0 ≤ i) (h1 : i ≤ l.length) (s : Int) {c : List ByteArray} (hc : 0 < c.length) : ∃ v i' s', spec_l1Str.f l i s c = some (v, i', s') ∧ v ∈ c ∧ 0 ≤ i' ∧ i' ≤ l.length := by
  unfold spec_l1Str.f
  obtain ⟨v, i, s, e, v0, v1, i0, i1⟩ := spec_l1Below_eq hl h0 h1 s (n := (c.length : Int)) (by omega)
  simp only [e, Option.bind_some]
  rw [if_pos v0, if_pos (by omega)]
  obtain ⟨j, rfl⟩ := Int.eq_ofNat_of_zero_le v0
  refine ⟨_, _, _, rfl, ?_, i0, i1⟩
  simp only [rdOf, Int.toNat_natCast, List.getD_eq_getElem?_getD, List.getElem?_eq_getElem (show j < c.length by omega), Option.getD_some]
  exact List.getElem_mem _
theorem spec_l1Num_eq {l : List Int} (hl : l.length ≤ 1099511627776) {i : Int} (h0 : 0 ≤ i) (h1 : i ≤ l.length) (s : Int) : ∃ v i' s', spec_l1Num.f l i s = some (v, i', s') ∧ 0 ≤ i' ∧ i' ≤ l.length := by
  unfold spec_l1Num.f
  obtain ⟨v, i, s, e, v0, v1, i0, i1⟩ := spec_l1Below_eq hl h0 h1 s (n := 1000) (by omega)
  simp only [e, Option.bind_some]
  obtain ⟨j, i, s, e, hj, i0, i1⟩ := spec_l1Int_eq hl i0 i1 s (c := [0, 1, (-1), 127, 128, (-128), (-129), 255, 256, 32767, 32768, (-32769), 8388608, 2147483647, (-2147483648), 2147483648, (-2147483649), 9223372036854775807, (-9223372036854775808), v]) (by simp)
  simp only [e, Option.bind_some]
  exact ⟨_, _, _, rfl, i0, i1⟩
theorem spec_l1Once_eq {l : List Int} (hl : l.length ≤ 1099511627776) {i : Int} (h0 : 0 ≤ i) (h1 : i ≤ l.length) (s : Int) {n : Int} (hn : 0 < n) : ∃ v i' s', spec_l1Once.f l i s n = some (v, i', s') ∧ 0 ≤ i' ∧ i' ≤ l.length := by
  unfold spec_l1Once.f
  obtain ⟨v, i, s, e, v0, v1, i0, i1⟩ := spec_l1Below_eq hl h0 h1 s hn
  simp only [e, Option.bind_some]
  exact ⟨_, _, _, rfl, i0, i1⟩
theorem rd_in {c : List Int} {lo hi : Int} (h : ∀ x ∈ c, lo ≤ x ∧ x ≤ hi) {j : Nat} (hj : j < c.length) : lo ≤ rd c (j : Int) ∧ rd c (j : Int) ≤ hi := by
  rw [rd_nat, List.getD_eq_getElem?_getD, List.getElem?_eq_getElem hj]
  exact h _ (List.getElem_mem _)
theorem spec_l1At_eq {l : List Int} (hl : l.length ≤ 1099511627776) {i : Int} (h0 : 0 ≤ i) (h1 : i ≤ l.length) (s : Int) {b : List Int} (hb : b.length ≤ 1099511627776) : ∃ v i' s', spec_l1At.f l i s b = some (v, i', s') ∧ -9223372036854775808 ≤ v ∧ v ≤ 9223372036854775807 ∧ 0 ≤ i' ∧ i' ≤ l.length := by
  unfold spec_l1At.f
  rw [w64 (n := (b.length : Int) + 1) (by omega) (by omega)]
  obtain ⟨v, i, s, e, v0, v1, i0, i1⟩ := spec_l1Below_eq hl h0 h1 s (n := (b.length : Int) + 1) (by omega)
  simp only [e, Option.bind_some]
  obtain ⟨j, i, s, e, hj, i0, i1⟩ := spec_l1Int_eq hl i0 i1 s (c := [0, 0, 0, (b.length : Int), v, (-1), 9223372036854775807]) (by simp)
  simp only [e, Option.bind_some]
  have hr := rd_in (lo := -9223372036854775808) (hi := 9223372036854775807) (c := [0, 0, 0, (b.length : Int), v, (-1), 9223372036854775807]) (by simp; omega) hj
  exact ⟨_, _, _, rfl, hr.1, hr.2, i0, i1⟩
theorem spec_l2Draw_l0 {b : List Int} (hb : b.length ≤ 1099511627776) (d : Nat) : ∀ (k : Nat) (x : List Int) (n i s : Int), n ≤ d → 0 ≤ n → n ≤ 100 → d < k → x.length + d ≤ 1000 → 0 ≤ i → i ≤ b.length → ∃ x' i' s', spec_l2Draw.l0 k x n b i s = some (x', i', s') ∧ x'.length ≤ x.length + d ∧ x.length ≤ x'.length ∧ 0 ≤ i' ∧ i' ≤ b.length := by
  induction d with
  | zero =>
    intro k x n i s hd h0 hn hk hx i0 i1
    obtain ⟨k, rfl⟩ : ∃ m, k = m + 1 := ⟨k - 1, by omega⟩
    simp only [spec_l2Draw.l0]
    rw [if_neg (by omega)]
    exact ⟨_, _, _, rfl, by omega, by omega, i0, i1⟩
  | succ d ih =>
    intro k x n i s hd h0 hn hk hx i0 i1
    obtain ⟨k, rfl⟩ : ∃ m, k = m + 1 := ⟨k - 1, by omega⟩
    simp only [spec_l2Draw.l0]
    by_cases h : n > 0
    · rw [if_pos h]
      obtain ⟨j, i, s, e, hj, i0, i1⟩ := spec_l1Int_eq hb i0 i1 s (c := [0, 1, 2, 3, 127, 128, 16384, 100000]) (by simp)
      simp only [e, Option.bind_some]
      rw [if_pos (by omega), w64 (n := n - 1) (by omega) (by omega)]
      obtain ⟨x', i', s', e, hx', hx2, i0, i1⟩ := ih k (x ++ [rd [0, 1, 2, 3, 127, 128, 16384, 100000] (j : Int)]) (n - 1) i s (by omega) (by omega) (by omega) (by omega) (by rw [List.length_append, List.length_cons, List.length_nil]; omega) i0 i1
      rw [List.length_append, List.length_cons, List.length_nil] at hx' hx2
      exact ⟨_, _, _, e, by omega, by omega, i0, i1⟩
    · rw [if_neg h]
      exact ⟨_, _, _, rfl, by omega, by omega, i0, i1⟩
theorem spec_l2Draw_eq {b : List Int} (hb : b.length ≤ 1099511627776) {i : Int} (h0 : 0 ≤ i) (h1 : i ≤ b.length) (s : Int) {k : Nat} (hk : 10 ≤ k) : ∃ x i' s', spec_l2Draw.f k b i s = some (x, i', s') ∧ 1 ≤ x.length ∧ x.length ≤ 6 ∧ 0 ≤ i' ∧ i' ≤ b.length := by
  unfold spec_l2Draw.f
  obtain ⟨v, i, s, e, v0, v1, i0, i1⟩ := spec_l1Below_eq hb h0 h1 s (n := 6) (by omega)
  simp only [e, Option.bind_some]
  rw [w64 (n := 1 + v) (by omega) (by omega)]
  obtain ⟨k, rfl⟩ : ∃ m, k = m + 1 := ⟨k - 1, by omega⟩
  simp only [spec_l2Draw.l0]
  rw [if_pos (by omega)]
  obtain ⟨j, i, s, e, hj, i0, i1⟩ := spec_l1Int_eq hb i0 i1 s (c := [0, 1, 2, 3, 127, 128, 16384, 100000]) (by simp)
  simp only [e, Option.bind_some]
  rw [if_pos (by simp), w64 (n := 1 + v - 1) (by omega) (by omega)]
  obtain ⟨x', i', s', e, hx', hx2, i0, i1⟩ := spec_l2Draw_l0 hb 5 k ([] ++ [rd [0, 1, 2, 3, 127, 128, 16384, 100000] (j : Int)]) (1 + v - 1) i s (by omega) (by omega) (by omega) (by omega) (by simp) i0 i1
  simp only [List.nil_append, List.length_cons, List.length_nil] at hx' hx2
  exact ⟨_, _, _, e, by omega, by omega, i0, i1⟩
theorem spec_l2Any_l0 {b : List Int} (hb : b.length ≤ 1099511627776) (d : Nat) : ∀ (k : Nat) (x : List Int) (i s : Int), 11 - x.length = d → d < k → 1 ≤ x.length → x.length ≤ 11 → 0 ≤ i → i ≤ b.length → ∃ x' i' s', spec_l2Any.l0 k x b i s = some (x', i', s') ∧ x'.length ≤ 11 ∧ 0 ≤ i' ∧ i' ≤ b.length := by
  induction d with
  | zero =>
    intro k x i s hd hk hx hx2 i0 i1
    obtain ⟨k, rfl⟩ : ∃ m, k = m + 1 := ⟨k - 1, by omega⟩
    simp only [spec_l2Any.l0]
    obtain ⟨v, i, s, e, v0, v1, i0, i1⟩ := spec_l1Below_eq hb i0 i1 s (n := 2) (by omega)
    simp only [e, Option.bind_some]
    rw [w64 (n := 10 + v) (by omega) (by omega), if_neg (by omega)]
    exact ⟨_, _, _, rfl, by omega, i0, i1⟩
  | succ d ih =>
    intro k x i s hd hk hx hx2 i0 i1
    obtain ⟨k, rfl⟩ : ∃ m, k = m + 1 := ⟨k - 1, by omega⟩
    simp only [spec_l2Any.l0]
    obtain ⟨v, i, s, e, v0, v1, i0, i1⟩ := spec_l1Below_eq hb i0 i1 s (n := 2) (by omega)
    simp only [e, Option.bind_some]
    rw [w64 (n := 10 + v) (by omega) (by omega)]
    by_cases h : (x.length : Int) < 10 + v
    · rw [if_pos h, if_pos (by omega)]
      exact ih k (x ++ [1]) i s (by rw [List.length_append, List.length_cons, List.length_nil]; omega) (by omega) (by rw [List.length_append, List.length_cons, List.length_nil]; omega) (by rw [List.length_append, List.length_cons, List.length_nil]; omega) i0 i1
    · rw [if_neg h]
      exact ⟨_, _, _, rfl, by omega, i0, i1⟩
theorem spec_l2Any_eq {b : List Int} (hb : b.length ≤ 1099511627776) {i : Int} (h0 : 0 ≤ i) (h1 : i ≤ b.length) (s : Int) {k : Nat} (hk : 20 ≤ k) : ∃ x i' s', spec_l2Any.f k b i s = some (x, i', s') ∧ x.length ≤ 11 ∧ 0 ≤ i' ∧ i' ≤ b.length := by
  unfold spec_l2Any.f
  obtain ⟨x, i, s, e, hx, hx2, i0, i1⟩ := spec_l2Draw_eq hb h0 h1 s (k := k) (by omega)
  simp only [e, Option.bind_some]
  obtain ⟨v, i, s, e, v0, v1, i0, i1⟩ := spec_l1Below_eq hb i0 i1 s (n := 10) (by omega)
  simp only [e, Option.bind_some]
  by_cases c0 : v = 0
  · rw [if_pos c0]
    exact ⟨_, _, _, rfl, by simp, i0, i1⟩
  · rw [if_neg c0]
    by_cases c1 : v = 1
    · rw [if_pos c1]
      obtain ⟨j, i, s, e, hj, i0, i1⟩ := spec_l1Int_eq hb i0 i1 s (c := [-1, 100001]) (by simp)
      simp only [e, Option.bind_some]
      rw [if_pos (by omega)]
      exact ⟨_, _, _, rfl, by rw [List.length_set]; omega, i0, i1⟩
    · rw [if_neg c1]
      by_cases c2 : v = 2
      · rw [if_pos c2]
        exact spec_l2Any_l0 hb _ k x i s rfl (by omega) hx (by omega) i0 i1
      · rw [if_neg c2]
        exact ⟨_, _, _, rfl, by omega, i0, i1⟩
theorem spec_l3Draw_eq {b : List Int} (hb : b.length ≤ 1099511627776) {i : Int} (h0 : 0 ≤ i) (h1 : i ≤ b.length) (s : Int) {k : Nat} (hk : 20 ≤ k) : ∃ t n x o i' s', spec_l3Draw.f k b i s = some (t, n, x, o, i', s') ∧ x.size ≤ 4 ∧ o.length ≤ 6 ∧ 0 ≤ i' ∧ i' ≤ b.length := by
  obtain ⟨k, rfl⟩ : ∃ m, k = m + 1 := ⟨k - 1, by omega⟩
  have z : (⟨#[]⟩ : ByteArray).size = 0 := rfl
  have go : ∀ (v : Int) (y : Bool) (i s : Int), 0 ≤ i → i ≤ b.length → ∃ t n x o i' s', spec_l3Draw.j0 (k + 1) v y b i s = some (t, n, x, o, i', s') ∧ x.size ≤ 4 ∧ o.length ≤ 6 ∧ 0 ≤ i' ∧ i' ≤ b.length := by
    intro v y i s i0 i1
    simp only [spec_l3Draw.j0]
    cases y with
    | true =>
      rw [if_pos rfl]
      obtain ⟨v, i, s, e, i0, i1⟩ := spec_l1Num_eq hb i0 i1 s
      simp only [e, Option.bind_some, spec_l1Clip_eq, spec_l3Int.f]
      exact ⟨_, _, _, _, _, _, rfl, by omega, by simp, i0, i1⟩
    | false =>
      rw [if_neg (by decide)]
      by_cases c3 : v = 3
      · rw [if_pos c3]
        obtain ⟨v, i, s, e, hv, i0, i1⟩ := spec_l1Str_eq hb i0 i1 s (c := [(⟨#[]⟩ : ByteArray), (⟨#[97]⟩ : ByteArray), (⟨#[121, 97, 114, 100]⟩ : ByteArray), (⟨#[0]⟩ : ByteArray)]) (by simp)
        simp only [e, Option.bind_some]
        refine ⟨_, _, _, _, _, _, rfl, ?_, by simp, i0, i1⟩
        simp only [List.mem_cons, List.not_mem_nil, or_false] at hv
        rcases hv with rfl | rfl | rfl | rfl <;> decide
      · rw [if_neg c3]
        by_cases c4 : v = 4
        · rw [if_pos c4]
          obtain ⟨x, i, s, e, hx, hx2, i0, i1⟩ := spec_l2Draw_eq hb i0 i1 s (k := k) (by omega)
          simp only [e, Option.bind_some]
          exact ⟨_, _, _, _, _, _, rfl, by omega, by omega, i0, i1⟩
        · rw [if_neg c4]
          obtain ⟨j, i, s, e, hj, i0, i1⟩ := spec_l1Int_eq hb i0 i1 s (c := [128, 130]) (by simp)
          simp only [e, Option.bind_some]
          exact ⟨_, _, _, _, _, _, rfl, by omega, by simp, i0, i1⟩
  unfold spec_l3Draw.f
  obtain ⟨v, i, s, e, v0, v1, i0, i1⟩ := spec_l1Below_eq hb h0 h1 s (n := 6) (by omega)
  simp only [e, Option.bind_some]
  by_cases c0 : v = 0
  · rw [if_pos c0]
    exact ⟨_, _, _, _, _, _, rfl, by omega, by simp, i0, i1⟩
  · rw [if_neg c0]
    by_cases c1 : v = 1
    · rw [if_pos c1]; exact go _ _ _ _ i0 i1
    · rw [if_neg c1]; exact go _ _ _ _ i0 i1
theorem spec_l3Any_eq {b : List Int} (hb : b.length ≤ 1099511627776) {i : Int} (h0 : 0 ≤ i) (h1 : i ≤ b.length) (s : Int) {k : Nat} (hk : 20 ≤ k) : ∃ t n x o i' s', spec_l3Any.f k b i s = some (t, n, x, o, i', s') ∧ x.size ≤ 21 ∧ o.length ≤ 11 ∧ 0 ≤ i' ∧ i' ≤ b.length := by
  unfold spec_l3Any.f
  obtain ⟨t, n, x, o, i, s, e, hx, ho, i0, i1⟩ := spec_l3Draw_eq hb h0 h1 s hk
  simp only [e, Option.bind_some]
  obtain ⟨v, i, s, e, v0, v1, i0, i1⟩ := spec_l1Below_eq hb i0 i1 s (n := 12) (by omega)
  simp only [e, Option.bind_some]
  by_cases c0 : v = 0
  · rw [if_pos c0]
    obtain ⟨j, i, s, e, hj, i0, i1⟩ := spec_l1Int_eq hb i0 i1 s (c := [0, 1, 2, 4, 5, 6, 128, 129, 130]) (by simp)
    simp only [e, Option.bind_some]
    exact ⟨_, _, _, _, _, _, rfl, by omega, by omega, i0, i1⟩
  · rw [if_neg c0]
    by_cases c1 : v = 1
    · rw [if_pos c1]
      obtain ⟨v, i, s, e, i0, i1⟩ := spec_l1Num_eq hb i0 i1 s
      simp only [e, Option.bind_some]
      exact ⟨_, _, _, _, _, _, rfl, by omega, by omega, i0, i1⟩
    · rw [if_neg c1]
      by_cases c2 : v = 2
      · rw [if_pos c2]
        obtain ⟨v, i, s, e, v0, v1, i0, i1⟩ := spec_l1Below_eq hb i0 i1 s (n := 2) (by omega)
        simp only [e, Option.bind_some]
        rw [w64 (n := 20 + v) (by omega) (by omega), if_pos (by omega), if_pos (by omega)]
        exact ⟨_, _, _, _, _, _, rfl, by rw [strOfNums_size, List.length_replicate]; omega, by omega, i0, i1⟩
      · rw [if_neg c2]
        by_cases c3 : v = 3
        · rw [if_pos c3]
          obtain ⟨o, i, s, e, ho, i0, i1⟩ := spec_l2Any_eq hb i0 i1 s (k := k) (by omega)
          simp only [e, Option.bind_some]
          exact ⟨_, _, _, _, _, _, rfl, by omega, by omega, i0, i1⟩
        · rw [if_neg c3]
          exact ⟨_, _, _, _, _, _, rfl, by omega, by omega, i0, i1⟩
theorem spec_DrawPutVal_eq {b : List Int} (hb : b.length ≤ 1099511627776) {k : Nat} (hk : b.length + 20 ≤ k) : ∃ p t n x o, spec_DrawPutVal.f k b = some (p, t, n, x, o) ∧ B p ∧ p.length ≤ 9 ∧ x.size ≤ 21 ∧ o.length ≤ 11 := by
  unfold spec_DrawPutVal.f
  obtain ⟨s, e⟩ := spec_l1New_eq hb (k := k) (by omega)
  simp only [e, Option.bind_some]
  obtain ⟨p, i, s, e, hB, hp, i0, i1⟩ := spec_l1Some_eq hb (i := 0) (by omega) (by omega) s (k := k) (by omega)
  simp only [e, Option.bind_some]
  obtain ⟨t, n, x, o, i, s, e, hx, ho, i0, i1⟩ := spec_l3Any_eq hb i0 i1 s (k := k) (by omega)
  simp only [e, Option.bind_some]
  exact ⟨_, _, _, _, _, rfl, hB, hp, hx, ho⟩
theorem spec_DrawGetVal_eq {b : List Int} (hb : b.length ≤ 1099511627776) {k : Nat} (hk : b.length + 40 ≤ k) : ∃ l a, spec_DrawGetVal.f k b = some (l, a) ∧ B l ∧ l.length ≤ 33 ∧ -9223372036854775808 ≤ a ∧ a ≤ 9223372036854775807 := by
  unfold spec_DrawGetVal.f
  obtain ⟨s, e⟩ := spec_l1New_eq hb (k := k) (by omega)
  simp only [e, Option.bind_some]
  obtain ⟨t, n, x, o, i, s, e, hx, ho, i0, i1⟩ := spec_l3Draw_eq hb (i := 0) (by omega) (by omega) s (k := k) (by omega)
  simp only [e, Option.bind_some]
  have hp : (putVal [] t n x o).length ≤ 32 := (putVal_len [] t n x o).2
  have e2 := spec_PutVal_eq (p := []) (Nat.zero_le _) t n x (o := o) (by omega) (k := k) (by omega)
  simp only [e2, Option.bind_some]
  obtain ⟨l', i, s, e, hB, hl, i0, i1⟩ := spec_l1Bend_eq hb i0 i1 s (l := putVal [] t n x o) (by omega) (putVal_B B.nil _ _ _ _)
  have hl2 : l'.length ≤ 33 := by omega
  rw [e, Option.bind_some]
  obtain ⟨v, i2, s2, e2, v0, v1, i0, i1⟩ := spec_l1At_eq hb i0 i1 s (b := l') (by omega)
  rw [e2, Option.bind_some]
  exact ⟨_, _, rfl, hB, hl2, v0, v1⟩
theorem spec_DrawSameVal_eq {b : List Int} (hb : b.length ≤ 1099511627776) {k : Nat} (hk : b.length + 20 ≤ k) : ∃ t n x o t2 n2 x2 o2, spec_DrawSameVal.f k b = some (t, n, x, o, t2, n2, x2, o2) ∧ o.length ≤ 11 ∧ o2.length ≤ 11 := by
  unfold spec_DrawSameVal.f
  obtain ⟨s, e⟩ := spec_l1New_eq hb (k := k) (by omega)
  simp only [e, Option.bind_some]
  obtain ⟨t, n, x, o, i, s, e, hx, ho, i0, i1⟩ := spec_l3Any_eq hb (i := 0) (by omega) (by omega) s (k := k) (by omega)
  simp only [e, Option.bind_some]
  obtain ⟨v, i, s, e, i0, i1⟩ := spec_l1Once_eq hb i0 i1 s (n := 3) (by omega)
  simp only [e, Option.bind_some]
  cases v with
  | true => rw [if_pos rfl]; exact ⟨_, _, _, _, _, _, _, _, rfl, ho, ho⟩
  | false =>
    rw [if_neg (by decide)]
    obtain ⟨t2, n2, x2, o2, i, s, e, hx2, ho2, i0, i1⟩ := spec_l3Any_eq hb i0 i1 s (k := k) (by omega)
    simp only [e, Option.bind_some]
    exact ⟨_, _, _, _, _, _, _, _, rfl, ho, ho2⟩
end Go.Proofs.Ytkcgghgkmgbphaa.EqFnVals
