/- What the printed functions of FnMsgs answer, said in plain words of lists and numbers. Conditions: sizes and ranges, as each lemma names them. -/
import Derived.Test.YtkcgghgkmgbphaaPFnMsgsx26
import Derived.Test.YtkcgghgkmgbphaaBaseFnMsgs
import Derived.Test.YtkcgghgkmgbphaaBytesFnMsgs
import Derived.Test.YtkcgghgkmgbphaaOidFnMsgs
import Derived.Test.YtkcgghgkmgbphaaValFnMsgs
namespace Go.Proofs.Ytkcgghgkmgbphaa.EqFnMsgs
open Go.RowKit Go.Proofs.Ytkcgghgkmgbphaa.PFnMsgs Go.Proofs.YtkcgghgkmgbphaaW.PrintWords Go.Proofs.YtkcgghgkmgbphaaW.PrintLast Go.Proofs.Ytkcgghgkmgbphaa.Base
theorem spec_l1In_eq (a b c : Int) : spec_l1In.f a b c = some (decide (b ≤ a ∧ a ≤ c)) := by
  unfold spec_l1In.f
  by_cases h : a ≥ b
  · rw [if_pos h]; congr 1; simp; omega
  · rw [if_neg h]; congr 1; simp; omega
theorem impl_in_eq (a b c : Int) : impl_in.f a b c = some (decide (b ≤ a ∧ a ≤ c)) := by
  unfold impl_in.f
  by_cases h : a ≥ b
  · rw [if_pos h]; congr 1; simp; omega
  · rw [if_neg h]; congr 1; simp; omega
theorem spec_l1Clip_eq (n : Int) : spec_l1Clip.f n = some (clip n) := by
  unfold spec_l1Clip.f clip
  repeat' split
  all_goals first | rfl | omega
theorem spec_PutInt_eq (n : Int) {k : Nat} (hk : 10 ≤ k) : spec_PutInt.f k n = some (putInt n) := by
  unfold spec_PutInt.f
  rw [spec_l1Clip_eq, Option.bind_some]
  unfold putInt
  obtain ⟨h0, h1⟩ := clip_range n
  generalize clip n = c at *
  obtain ⟨k, rfl⟩ : ∃ m, k = m + 5 := ⟨k - 5, by omega⟩
  have step : ∀ (k : Nat) (x : Int) (l : List Int), ¬ (-128 ≤ x ∧ x ≤ 127) → l.length < 1000 → spec_PutInt.l0 (k + 1) x l = spec_PutInt.l0 k (x / 256) ((x / 256) % 256 :: l) := by
    intro k x l hx hl
    simp only [spec_PutInt.l0, Option.bind_some, List.length_cons, List.length_nil, List.cons_append, List.nil_append]
    by_cases c : x < -128
    · rw [if_pos c, if_pos (by omega)]
    · rw [if_neg c, if_pos (by omega), if_pos (by omega)]
  have stop : ∀ (k : Nat) (x : Int) (l : List Int), (-128 ≤ x ∧ x ≤ 127) → spec_PutInt.l0 (k + 1) x l = some l := by
    intro k x l hx
    simp only [spec_PutInt.l0]
    rw [if_neg (by omega), if_neg (by omega)]
  unfold intBytes
  by_cases c1 : -128 ≤ c ∧ c ≤ 127
  · rw [if_pos c1]; exact stop _ _ _ c1
  · rw [if_neg c1, step _ _ _ c1 (by simp)]
    by_cases c2 : -32768 ≤ c ∧ c ≤ 32767
    · rw [if_pos c2]; exact stop _ _ _ (by omega)
    · rw [if_neg c2, step _ _ _ (by omega) (by simp)]
      by_cases c3 : -8388608 ≤ c ∧ c ≤ 8388607
      · rw [if_pos c3, stop _ _ _ (by omega), show c / 256 / 256 = c / 65536 by omega]
      · rw [if_neg c3, step _ _ _ (by omega) (by simp), stop _ _ _ (by omega), show c / 256 / 256 = c / 65536 by omega, show c / 65536 / 256 = c / 16777216 by omega]
theorem impl_PutInt_eq (n : Int) {k : Nat} (hk : 20 ≤ k) : impl_PutInt.f k n = some (putInt n) := by
  unfold impl_PutInt.f
  rw [mxmn]
  unfold putInt
  obtain ⟨h0, h1⟩ := clip_range n
  generalize clip n = c at *
  obtain ⟨k, rfl⟩ : ∃ m, k = m + 12 := ⟨k - 12, by omega⟩
  have nx : ∀ (k : Nat) (j : Int) (lo hi : Int), j < 4 → 0 ≤ wrap64 (wrap64 (8 * j) - 1) → shl .i64 (-1) (wrap64 (wrap64 (8 * j) - 1)) = lo → wrap64 (shl .i64 1 (wrap64 (wrap64 (8 * j) - 1)) - 1) = hi →
      impl_PutInt.l0 (k + 1) c j = if lo ≤ c ∧ c ≤ hi then impl_PutInt.j1 k c j else impl_PutInt.l0 k c (wrap64 (j + 1)) := by
    intro k j lo hi hj hs e1 e2
    simp only [impl_PutInt.l0]
    rw [if_pos hj, if_pos hs, e1, e2, impl_in_eq, Option.bind_some]
    by_cases h : lo ≤ c ∧ c ≤ hi
    · rw [if_pos (by simpa using h), if_pos h]
    · rw [if_neg (by simpa using h), if_neg h]
  have out : ∀ (k : Nat) (l : List Int) (j : Int) (v : Int), 0 ≤ j → j ≤ 3 → l.length < 1000 → shr .i64 c (wrap64 (8 * j)) = v → impl_PutInt.l1 (k + 1) c l j = impl_PutInt.l1 k c (l ++ [v % 256]) (wrap64 (j - 1)) := by
    intro k l j v hj hj3 hl hv
    simp only [impl_PutInt.l1]
    rw [if_pos hj, if_pos (by rw [w64 (by omega) (by omega)]; omega), if_pos (by omega), hv]
  have fin : ∀ (k : Nat) (l : List Int), impl_PutInt.l1 (k + 1) c l (-1) = some l := by
    intro k l
    simp only [impl_PutInt.l1]
    rw [if_neg (by omega)]
  have s0 : shr .i64 c (wrap64 (8 * 0)) = c := by unfold shr; rw [show (2 : Int) ^ min (wrap64 (8 * 0)).toNat IntKind.i64.bits = 1 by decide +kernel, Int.ediv_one]
  have s1 : shr .i64 c (wrap64 (8 * 1)) = c / 256 := by unfold shr; rw [show (2 : Int) ^ min (wrap64 (8 * 1)).toNat IntKind.i64.bits = 256 by decide +kernel]
  have s2 : shr .i64 c (wrap64 (8 * 2)) = c / 65536 := by unfold shr; rw [show (2 : Int) ^ min (wrap64 (8 * 2)).toNat IntKind.i64.bits = 65536 by decide +kernel]
  have s3 : shr .i64 c (wrap64 (8 * 3)) = c / 16777216 := by unfold shr; rw [show (2 : Int) ^ min (wrap64 (8 * 3)).toNat IntKind.i64.bits = 16777216 by decide +kernel]
  have w1 : wrap64 (1 - 1) = 0 := by decide +kernel
  have w2 : wrap64 (2 - 1) = 1 := by decide +kernel
  have w3 : wrap64 (3 - 1) = 2 := by decide +kernel
  have w4 : wrap64 (4 - 1) = 3 := by decide +kernel
  have w0 : wrap64 (0 - 1) = -1 := by decide +kernel
  unfold intBytes
  rw [nx (k + 11) 1 (-128) 127 (by omega) (by decide +kernel) (by decide +kernel) (by decide +kernel)]
  by_cases c1 : -128 ≤ c ∧ c ≤ 127
  · rw [if_pos c1, if_pos c1]
    simp only [impl_PutInt.j1]
    rw [w1, out _ _ 0 c (by omega) (by omega) (by simp) s0, w0, fin]
    rfl
  · rw [if_neg c1, if_neg c1, show wrap64 (1 + 1) = 2 by decide +kernel, nx _ 2 (-32768) 32767 (by omega) (by decide +kernel) (by decide +kernel) (by decide +kernel)]
    by_cases c2 : -32768 ≤ c ∧ c ≤ 32767
    · rw [if_pos c2, if_pos c2]
      simp only [impl_PutInt.j1]
      rw [w2, out _ _ 1 _ (by omega) (by omega) (by simp) s1, w1, out _ _ 0 c (by omega) (by omega) (by simp) s0, w0, fin]
      rfl
    · rw [if_neg c2, if_neg c2, show wrap64 (2 + 1) = 3 by decide +kernel, nx _ 3 (-8388608) 8388607 (by omega) (by decide +kernel) (by decide +kernel) (by decide +kernel)]
      by_cases c3 : -8388608 ≤ c ∧ c ≤ 8388607
      · rw [if_pos c3, if_pos c3]
        simp only [impl_PutInt.j1]
        rw [w3, out _ _ 2 _ (by omega) (by omega) (by simp) s2, w2, out _ _ 1 _ (by omega) (by omega) (by simp) s1, w1, out _ _ 0 c (by omega) (by omega) (by simp) s0, w0, fin]
        rfl
      · rw [if_neg c3, if_neg c3, show wrap64 (3 + 1) = 4 by decide +kernel]
        have : impl_PutInt.l0 (k + 8 + 1) c 4 = impl_PutInt.j1 (k + 8) c 4 := by simp only [impl_PutInt.l0]; rw [if_neg (by omega)]
        rw [this]
        simp only [impl_PutInt.j1]
        rw [w4, out _ _ 3 _ (by omega) (by omega) (by simp) s3, w3, out _ _ 2 _ (by omega) (by omega) (by simp) s2, w2, out _ _ 1 _ (by omega) (by omega) (by simp) s1, w1, out _ _ 0 c (by omega) (by omega) (by simp) s0, w0, fin]
        rfl
theorem impl_copyBytes_eq {l : List Int} (hl : l.length ≤ 1099511627776) : impl_copyBytes.f l = some l := by
  unfold impl_copyBytes.f
  rw [if_pos (by simp only [List.length_nil]; omega)]
  rfl
theorem impl_GetTlv_eq {l : List Int} (hB : B l) (hl : l.length ≤ 1099511627776) {a : Int} (ha : -9223372036854775808 ≤ a ∧ a ≤ 9223372036854775807) : impl_GetTlv.f l a = some (tlv4 l a) := by
  have b1 := hB.at_ (a + 1)
  have b2 := hB.at_ (a + 2)
  have b0 := hB.at_ a
  have z2 : wrap64 ((l.length : Int) - 2) = l.length - 2 := w64 (by omega) (by omega)
  unfold tlv4 tlvAt
  by_cases h : 0 ≤ a ∧ a + 1 < l.length
  · rw [if_pos h]
    obtain ⟨h0, h1⟩ := h
    have w1 : wrap64 (a + 1) = a + 1 := w64 (by omega) (by omega)
    have w2 : wrap64 (a + 2) = a + 2 := w64 (by omega) (by omega)
    have w3 : wrap64 (a + 2 + 1) = a + 3 := by rw [w64 (by omega) (by omega)]; omega
    have v0 : wrap64 (rd l a) = rd l a := w64 (by omega) (by omega)
    have v1 : wrap64 (rd l (a + 1)) = rd l (a + 1) := w64 (by omega) (by omega)
    have v2 : wrap64 (rd l (a + 2)) = rd l (a + 2) := w64 (by omega) (by omega)
    have s2 : wrap64 ((l.length : Int) - (a + 2)) = l.length - (a + 2) := w64 (by omega) (by omega)
    have s3 : wrap64 ((l.length : Int) - (a + 3)) = l.length - (a + 3) := w64 (by omega) (by omega)
    have t2 : wrap64 (a + 2 + rd l (a + 1)) = a + 2 + rd l (a + 1) := w64 (by omega) (by omega)
    have t3 : wrap64 (a + 3 + rd l (a + 2)) = a + 3 + rd l (a + 2) := w64 (by omega) (by omega)
    unfold impl_GetTlv.f
    simp only [z2, w1, w2, w3, v0, v1, v2, s2, s3, t2, t3]
    rw [if_neg (by omega), if_neg (by omega), if_pos (by omega), if_pos (by omega)]
    by_cases c : rd l (a + 1) < 128
    · rw [if_pos c, if_neg (by omega), if_neg (by omega)]
      by_cases c2 : a + 2 + rd l (a + 1) ≤ l.length
      · rw [if_neg (by omega), if_pos (by omega), if_pos (by omega), if_pos (by omega), if_pos (by omega), if_pos (by omega), if_pos c2, impl_copyBytes_eq (by rw [List.length_drop, List.length_take]; omega), Option.bind_some]
      · rw [if_pos (by omega), if_neg c2]
    · rw [if_neg c, if_pos (by omega)]
      by_cases d : rd l (a + 1) = 129
      · rw [if_pos d]
        by_cases d2 : a + 2 ≥ (l.length : Int)
        · rw [if_pos d2, if_neg (by omega)]
        · rw [if_neg d2, if_pos (by omega), if_pos (by omega)]
          by_cases d3 : rd l (a + 2) < 128
          · rw [if_pos d3, if_neg (by omega)]
          · rw [if_neg d3]
            by_cases d4 : rd l (a + 2) > 250
            · rw [if_pos d4, if_neg (by omega)]
            · rw [if_neg d4]
              by_cases d5 : rd l (a + 2) > l.length - (a + 3)
              · rw [if_pos d5, if_neg (by omega)]
              · rw [if_neg d5, if_pos (by omega), if_pos (by omega), if_pos (by omega), if_pos (by omega), if_pos (by omega), impl_copyBytes_eq (by rw [List.length_drop, List.length_take]; omega), Option.bind_some, if_pos (by omega)]
      · rw [if_neg d, if_neg (by omega)]
  · rw [if_neg h]
    unfold impl_GetTlv.f
    rw [z2]
    by_cases h0 : a < 0
    · rw [if_pos h0]
    · rw [if_neg h0, if_pos (by omega)]
theorem impl_part_eq {l : List Int} (hB : B l) (hl : l.length ≤ 1099511627776) {a : Int} (ha : -9223372036854775808 ≤ a ∧ a ≤ 9223372036854775807) (bad : Bool) (tag : Int) : impl_parts_part.f l a bad tag = some (xPart l a bad tag) := by
  unfold impl_parts_part.f
  rw [impl_GetTlv_eq hB hl ha, Option.bind_some]
  unfold xPart tlv4
  cases bad with
  | true => simp
  | false =>
    cases tlvAt l a with
    | none => simp
    | some x => obtain ⟨t, b, n⟩ := x; by_cases h : t = tag <;> simp [h]
theorem impl_GetInt_l0 (b c : List Int) (hB : B c) (hl : c.length ≤ 4) (d : Nat) : ∀ (k i : Nat) (n : Int), c.length - i = d → d + 30 ≤ k → i ≤ c.length → (∀ m : Nat, m ≤ d → -2147483648 ≤ ((c.drop i).take m).foldl more n ∧ ((c.drop i).take m).foldl more n ≤ 2147483647) →
    impl_GetInt.l0 k b n c (c.length : Int) (i : Int) = some (if (putInt ((c.drop i).foldl more n)).length = b.length then ((c.drop i).foldl more n, true) else (0, false)) := by
  induction d with
  | zero =>
    intro k i n hd hk hi hr
    obtain ⟨k, rfl⟩ : ∃ m, k = m + 1 := ⟨k - 1, by omega⟩
    simp only [impl_GetInt.l0]
    rw [if_neg (by omega), impl_PutInt_eq _ (by omega), Option.bind_some, List.drop_of_length_le (by omega)]
    by_cases h : (putInt n).length = b.length
    · rw [if_pos (by omega)]; exact congrArg some (if_pos h).symm
    · rw [if_neg (by omega)]; exact congrArg some (if_neg h).symm
  | succ d ih =>
    intro k i n hd hk hi hr
    obtain ⟨k, rfl⟩ : ∃ m, k = m + 1 := ⟨k - 1, by omega⟩
    have hlt : i < c.length := by omega
    have hx := hB.at_ (i : Int)
    simp only [impl_GetInt.l0]
    have e : c.drop i = rd c (i : Int) :: c.drop (i + 1) := by
      rw [List.drop_eq_getElem_cons hlt]
      congr 1
      rw [rd_nat, List.getD_eq_getElem?_getD, List.getElem?_eq_getElem hlt]; rfl
    have h1 := hr 1 (by omega)
    rw [e] at h1
    simp only [List.take_succ_cons, List.take_zero, List.foldl_cons, List.foldl_nil, more] at h1
    rw [if_pos (by omega), if_pos (by omega), if_pos (by omega), or_bytes _ _ hx.1 hx.2, w64 (n := (i : Int) + 1) (by omega) (by omega), w64 (by omega) (by omega), e, List.foldl_cons]
    have := ih k (i + 1) (n * 256 + rd c (i : Int)) (by omega) (by omega) (by omega) (fun m hm => by
      have := hr (m + 1) (by omega)
      rw [e, List.take_succ_cons, List.foldl_cons] at this
      exact this)
    exact this
/-- Behind some intBytes a number is still small. -/
theorem fold_small (l : List Int) (hB : B l) (x : Int) (hx : -128 ≤ x ∧ x ≤ 127) (hl : l.length ≤ 3) (m : Nat) : -2147483648 ≤ (l.take m).foldl more x ∧ (l.take m).foldl more x ≤ 2147483647 := by
  have hl2 : (l.take m).length ≤ 3 := by rw [List.length_take]; omega
  have hB2 := hB.take m
  generalize l.take m = t at *
  match t, hl2, hB2 with
  | [], _, _ => simp only [List.foldl_nil]; omega
  | [a], _, h =>
    have ha := h a (by simp)
    simp only [List.foldl_cons, List.foldl_nil, more]; omega
  | [a, b], _, h =>
    have ha := h a (by simp)
    have hb := h b (by simp)
    simp only [List.foldl_cons, List.foldl_nil, more]; omega
  | [a, b, c], _, h =>
    have ha := h a (by simp)
    have hb := h b (by simp)
    have hc := h c (by simp)
    simp only [List.foldl_cons, List.foldl_nil, more]; omega
  | a :: b :: c :: d :: t, h, _ => simp at h
theorem i8_s8 {x : Int} (h0 : 0 ≤ x) (h1 : x ≤ 255) : IntKind.i8.wrap x = s8 x := by
  unfold s8
  simp only [IntKind.wrap, IntKind.bits, IntKind.signed, Bool.true_and]
  by_cases c : x > 127
  · rw [if_pos c, if_pos (by simp only [decide_eq_true_eq, ge_iff_le]; omega)]; omega
  · rw [if_neg c, if_neg (by simp only [decide_eq_true_eq, ge_iff_le]; omega)]; omega
theorem impl_GetInt_eq {b : List Int} (hB : B b) (hl : b.length ≤ 1099511627776) {k : Nat} (hk : 50 ≤ k) : impl_GetInt.f k b = some (getInt b) := by
  unfold impl_GetInt.f getInt
  rw [impl_in_eq, Option.bind_some]
  by_cases h : 1 ≤ b.length ∧ b.length ≤ 4
  · rw [if_pos (by simp; omega), if_pos (by omega), if_pos (by omega), if_pos h]
    obtain ⟨x, l, rfl⟩ : ∃ x l, b = x :: l := by
      cases b with
      | nil => simp at h
      | cons x l => exact ⟨x, l, rfl⟩
    have hx := hB x (by simp)
    have hBl : B l := fun y hy => hB y (List.mem_cons_of_mem _ hy)
    have hll : l.length ≤ 3 := by have := h.2; simp at this; omega
    rw [rd_cons_zero, i8_s8 hx.1 hx.2, w64 (by unfold s8; split <;> omega) (by unfold s8; split <;> omega)]
    have := impl_GetInt_l0 (x :: l) l hBl (by omega) l.length k 0 (s8 x) (by simp) (by omega) (by simp) (fun m hm => by
        simp only [List.drop_zero]
        exact fold_small l hBl (s8 x) (by unfold s8; split <;> omega) hll m)
    exact this
  · rw [if_neg (by simp; omega), if_neg h]
theorem impl_num_eq {l : List Int} (hB : B l) (hl : l.length ≤ 1099511627776) {a : Int} (h0 : 0 ≤ a) (h1 : a ≤ l.length) (bad : Bool) (tag : Int) {k : Nat} (hk : 50 ≤ k) : impl_parts_num.f k l a bad tag = some (xNum l a bad tag) := by
  obtain ⟨p1, p2, _⟩ := xPart_range hB h0 h1 bad tag
  unfold impl_parts_num.f xNum
  rw [impl_part_eq hB hl ⟨by omega, by omega⟩, Option.bind_some, impl_GetInt_eq p1 (by omega) (by omega), Option.bind_some]
  cases (xPart l a bad tag).2.2 <;> simp
theorem impl_tlv_eq (t : Int) (b : List Int) (hb : b.length ≤ 1099511627776) {k : Nat} (hk : 1 ≤ k) : impl_tlv.f k t b = some (if 0 ≤ t ∧ t ≤ 255 ∧ b.length ≤ 250 then (tlv t b, true) else ([], false)) := by
  obtain ⟨k, rfl⟩ : ∃ m, k = m + 1 := ⟨k - 1, by omega⟩
  unfold impl_tlv.f
  rw [impl_in_eq, Option.bind_some]
  by_cases h1 : 0 ≤ t ∧ t ≤ 255
  · rw [if_pos (by simpa using h1)]
    simp only [impl_tlv.j0, Option.bind_some, List.length_cons, List.length_nil, List.length_append]
    by_cases h2 : (b.length : Int) > 250
    · rw [if_pos (by simpa using h2), if_neg (by omega)]
    · rw [if_neg (by simpa using h2), if_pos (show 0 ≤ t ∧ t ≤ 255 ∧ b.length ≤ 250 by omega)]
      unfold tlv
      by_cases h3 : (b.length : Int) ≥ 128
      · rw [if_pos h3, if_pos (by omega), if_pos (by omega), if_pos (by omega), if_pos (by omega), show (b.length : Int) % 256 = b.length by omega]
        rfl
      · rw [if_neg h3, if_pos (by omega), if_pos (by omega), if_neg (by omega), show (b.length : Int) % 256 = b.length by omega]
        rfl
  · rw [if_neg (by simp; omega), if_neg (by omega)]
    simp only [impl_tlv.j0]
    rfl

theorem impl_copyBytes_eq' {l : List Int} (hl : l.length ≤ 1099511627776) : impl_copyBytes.f l = some l := by
  unfold impl_copyBytes.f
  rw [if_pos (by simp only [List.length_nil]; omega)]
  rfl
theorem impl_PutTlv_eq {p : List Int} (t : Int) {b : List Int} (hp : p.length ≤ 1099511627776) (hb : b.length ≤ 1099511627776) {k : Nat} (hk : 1 ≤ k) : impl_PutTlv.f k p t b = some (putTlv p t b) := by
  unfold impl_PutTlv.f putTlv
  rw [impl_tlv_eq t b hb hk, Option.bind_some, impl_copyBytes_eq' hp, Option.bind_some]
  by_cases h : 0 ≤ t ∧ t ≤ 255 ∧ b.length ≤ 250
  · rw [if_pos h, if_pos h]
    have := tlv_len t b
    rw [if_pos (by simp only; split at this <;> omega)]
  · rw [if_neg h, if_neg h]
    rw [if_pos (by simp only [List.length_nil]; omega), List.append_nil]
theorem impl_addNum_eq {p : List Int} (t n : Int) (hp : p.length ≤ 1099511627776) {k : Nat} (hk : 20 ≤ k) : impl_addNum.f k p t n = some (putTlv p t (putInt n)) := by
  unfold impl_addNum.f
  rw [impl_PutInt_eq n hk, Option.bind_some, impl_PutTlv_eq t hp (by have := putInt_len n; omega) (by omega)]
  rfl
/-! ### draws: what they answer is in range, whatever was drawn from -/
theorem and255 (x : Int) : 0 ≤ Go.bits .and .i64 x 255 ∧ Go.bits .and .i64 x 255 ≤ 255 := by
  simp only [Go.bits]
  have h : (BitVec.ofInt 64 x &&& BitVec.ofInt 64 255).toNat ≤ 255 := by
    rw [BitVec.toNat_and, show (BitVec.ofInt 64 255).toNat = 255 by decide]
    exact Nat.and_le_right
  show 0 ≤ IntKind.i64.wrap (((BitVec.ofInt 64 x &&& BitVec.ofInt 64 255).toNat : Int)) ∧ IntKind.i64.wrap (((BitVec.ofInt 64 x &&& BitVec.ofInt 64 255).toNat : Int)) ≤ 255
  rw [IntKind.wrap_i64]
  omega
/-- A draw that went well: the value in range, the place not behind the end. -/
def Drawn (l : List Int) (lo hi : Int) (o : Option (Int × Int × Int)) : Prop := ∃ v i s, o = some (v, i, s) ∧ lo ≤ v ∧ v ≤ hi ∧ 0 ≤ i ∧ i ≤ l.length
theorem spec_l1Byte_eq {l : List Int} (hl : l.length ≤ 1099511627776) {i : Int} (h0 : 0 ≤ i) (h1 : i ≤ l.length) (s : Int) : Drawn l 0 255 (spec_l1Byte.f l i s) := by
  unfold spec_l1Byte.f
  by_cases h : i < (l.length : Int)
  · rw [if_pos h, if_pos h0, w64 (n := i + 1) (by omega) (by omega)]
    exact ⟨_, _, _, rfl, (and255 _).1, (and255 _).2, by omega, by omega⟩
  · rw [if_neg h]
    exact ⟨_, _, _, rfl, (and255 _).1, (and255 _).2, h0, h1⟩
theorem spec_l1New_l0 (l : List Int) (hl : l.length ≤ 1099511627776) (d : Nat) : ∀ (k i : Nat) (s : Int), l.length - i = d → d < k → ∃ s', spec_l1New.l0 k l s (i : Int) = some (l, 0, s') := by
  induction d with
  | zero =>
    intro k i s hd hk
    obtain ⟨k, rfl⟩ : ∃ m, k = m + 1 := ⟨k - 1, by omega⟩
    simp only [spec_l1New.l0]
    rw [if_neg (by omega)]
    exact ⟨_, rfl⟩
  | succ d ih =>
    intro k i s hd hk
    obtain ⟨k, rfl⟩ : ∃ m, k = m + 1 := ⟨k - 1, by omega⟩
    have nx := fun s => ih k (i + 1) s (by omega) (by omega)
    rw [show ((i + 1 : Nat) : Int) = (i : Int) + 1 by omega] at nx
    simp only [spec_l1New.l0]
    rw [if_pos (by omega), w64 (n := (i : Int) + 1) (by omega) (by omega)]
    by_cases h : (i : Int) < 4000
    · rw [if_pos h, if_pos (by omega)]; exact nx _
    · rw [if_neg h]; exact ⟨_, rfl⟩
theorem spec_l1New_eq {l : List Int} (hl : l.length ≤ 1099511627776) {k : Nat} (hk : l.length < k) : ∃ s, spec_l1New.f k l = some (l, 0, s) := by
  unfold spec_l1New.f
  exact spec_l1New_l0 l hl l.length k 0 _ (by omega) hk
theorem tmod_range {x n : Int} (hx : 0 ≤ x) (hn : 0 < n) : 0 ≤ Int.tmod x n ∧ Int.tmod x n ≤ n - 1 := by
  rw [Int.tmod_eq_emod_of_nonneg hx]
  have := Int.emod_nonneg x (show n ≠ 0 by omega)
  have := Int.emod_lt_of_pos x hn
  omega
theorem spec_l1Below_eq {l : List Int} (hl : l.length ≤ 1099511627776) {i : Int} (h0 : 0 ≤ i) (h1 : i ≤ l.length) (s : Int) {n : Int} (hn : 0 < n) : Drawn l 0 (n - 1) (spec_l1Below.f l i s n) := by
  unfold spec_l1Below.f
  rw [if_neg (by omega)]
  obtain ⟨v, i, s, e, v0, v1, i0, i1⟩ := spec_l1Byte_eq hl h0 h1 s
  have nz : ¬ n = 0 := by omega
  simp only [e, Option.bind_some, if_neg nz]
  by_cases h : n ≤ 256
  · rw [if_pos h]
    exact ⟨_, _, _, rfl, (tmod_range v0 hn).1, (tmod_range v0 hn).2, i0, i1⟩
  · rw [if_neg h]
    obtain ⟨v2, i2, s2, e2, v20, v21, i20, i21⟩ := spec_l1Byte_eq hl i0 i1 s
    simp only [e2, Option.bind_some]
    obtain ⟨v3, i3, s3, e3, v30, v31, i30, i31⟩ := spec_l1Byte_eq hl i20 i21 s2
    simp only [e3, Option.bind_some]
    have hp : 0 ≤ wrap64 (wrap64 (wrap64 (v * 65536) + wrap64 (v2 * 256)) + v3) := by
      rw [w64 (n := v * 65536) (by omega) (by omega), w64 (n := v2 * 256) (by omega) (by omega), w64 (n := v * 65536 + v2 * 256) (by omega) (by omega), w64 (by omega) (by omega)]
      omega
    exact ⟨_, _, _, rfl, (tmod_range hp hn).1, (tmod_range hp hn).2, i30, i31⟩
theorem spec_l1Int_eq {l : List Int} (hl : l.length ≤ 1099511627776) {i : Int} (h0 : 0 ≤ i) (h1 : i ≤ l.length) (s : Int) {c : List Int} (hc : 0 < c.length) : ∃ j i' s', spec_l1Int.f l i s c = some (rd c (j : Nat), i', s') ∧ j < c.length ∧ 0 ≤ i' ∧ i' ≤ l.length := by
  unfold spec_l1Int.f
  obtain ⟨v, i, s, e, v0, v1, i0, i1⟩ := spec_l1Below_eq hl h0 h1 s (n := (c.length : Int)) (by omega)
  simp only [e, Option.bind_some]
  rw [if_pos v0, if_pos (by omega)]
  obtain ⟨j, rfl⟩ := Int.eq_ofNat_of_zero_le v0
  exact ⟨j, _, _, rfl, by omega, i0, i1⟩
theorem spec_PutTlv_eq {p : List Int} (t : Int) {b : List Int} (hp : p.length ≤ 1099511627776) (hb : b.length ≤ 1099511627776) {k : Nat} (hk : 1 ≤ k) : spec_PutTlv.f k p t b = some (putTlv p t b) := by
  obtain ⟨k, rfl⟩ : ∃ m, k = m + 1 := ⟨k - 1, by omega⟩
  unfold spec_PutTlv.f putTlv
  rw [Option.bind_some, if_pos (by simp only [List.length_nil]; omega), Option.bind_some, spec_l1In_eq, Option.bind_some, List.nil_append]
  by_cases h1 : 0 ≤ t ∧ t ≤ 255
  · rw [if_pos (decide_eq_true h1)]
    simp only [spec_PutTlv.j0]
    by_cases h2 : (b.length : Int) > 250
    · rw [if_pos (decide_eq_true h2), if_neg (by omega)]
    · rw [if_neg (by simpa using h2), if_pos (by omega), Option.bind_some, if_pos (show 0 ≤ t ∧ t ≤ 255 ∧ b.length ≤ 250 by omega)]
      unfold tlv
      by_cases h3 : (b.length : Int) > 127
      · rw [if_pos h3, if_pos (show 128 ≤ b.length by omega), if_pos (by simp only [List.length_append, List.length_cons, List.length_nil]; omega), Option.bind_some, if_pos (by simp only [List.length_append, List.length_cons, List.length_nil]; omega), Option.bind_some, if_pos (by simp only [List.length_append, List.length_cons, List.length_nil]; omega), show (b.length : Int) % 256 = b.length by omega]
        simp
      · rw [if_neg h3, if_neg (show ¬ 128 ≤ b.length by omega), if_pos (by simp only [List.length_append, List.length_cons, List.length_nil]; omega), Option.bind_some, if_pos (by simp only [List.length_append, List.length_cons, List.length_nil]; omega), show (b.length : Int) % 256 = b.length by omega]
        simp
  · rw [if_neg (by simpa using h1), if_neg (by omega)]
    simp only [spec_PutTlv.j0]
    rfl
theorem sameBytes_l0 (l : List Int) (hn : l.length ≤ 1099511627776) (d : Nat) : ∀ (k i : Nat), l.length - i = d → d < k → laws_sameBytes.l0 k l l (i : Int) = some true := by
  induction d with
  | zero =>
    intro k i hd hk
    obtain ⟨k, rfl⟩ : ∃ m, k = m + 1 := ⟨k - 1, by omega⟩
    simp only [laws_sameBytes.l0]
    rw [if_neg (by omega)]
  | succ d ih =>
    intro k i hd hk
    obtain ⟨k, rfl⟩ : ∃ m, k = m + 1 := ⟨k - 1, by omega⟩
    have nx := ih k (i + 1) (by omega) (by omega)
    rw [show ((i + 1 : Nat) : Int) = (i : Int) + 1 by omega] at nx
    simp only [laws_sameBytes.l0]
    rw [if_pos (by omega), if_pos (by omega), if_pos (by omega), w64 (by omega) (by omega), nx, if_pos trivial]
theorem sameBytes_self {l : List Int} (hn : l.length ≤ 1099511627776) {k : Nat} (hk : l.length < k) : laws_sameBytes.f k l l = some true := by
  unfold laws_sameBytes.f
  rw [if_pos rfl]
  exact sameBytes_l0 l hn l.length k 0 (by omega) hk
theorem impl_OidOk_l0 (o : List Int) (hn : o.length ≤ 1099511627776) (d : Nat) : ∀ (k i : Nat), o.length - i = d → d < k → i ≤ o.length → impl_OidOk.l0 k o o (o.length : Int) (i : Int) = some ((o.drop i).all (fun n => decide (0 ≤ n ∧ n ≤ 100000)) && decide (1 ≤ o.length ∧ o.length ≤ 10)) := by
  induction d with
  | zero =>
    intro k i hd hk hi
    obtain ⟨k, rfl⟩ : ∃ m, k = m + 1 := ⟨k - 1, by omega⟩
    simp only [impl_OidOk.l0]
    rw [if_neg (by omega), impl_in_eq, Option.bind_some, List.drop_of_length_le (by omega), List.all_nil, Bool.true_and]
    congr 1
    exact decide_eq_decide.2 (by omega)
  | succ d ih =>
    intro k i hd hk hi
    obtain ⟨k, rfl⟩ : ∃ m, k = m + 1 := ⟨k - 1, by omega⟩
    simp only [impl_OidOk.l0]
    rw [if_pos (by omega), if_pos (by omega), if_pos (by omega), impl_in_eq, Option.bind_some, w64 (n := (i : Int) + 1) (by omega) (by omega), show ((i : Int) + 1) = ((i + 1 : Nat) : Int) by omega, ih k (i + 1) (by omega) (by omega) (by omega), drop_cons_rd (l := o) (n := i) (by omega), List.all_cons]
    by_cases h : 0 ≤ rd o (i : Int) ∧ rd o (i : Int) ≤ 100000
    · rw [if_pos (decide_eq_true h), decide_eq_true h, Bool.true_and]
    · rw [if_neg (by simpa using h), decide_eq_false h, Bool.false_and, Bool.false_and]
theorem impl_OidOk_eq {o : List Int} (hn : o.length ≤ 1099511627776) {k : Nat} (hk : o.length < k) : impl_OidOk.f k o = some (oidOk o) := by
  unfold impl_OidOk.f oidOk
  have := impl_OidOk_l0 o hn o.length k 0 (by omega) hk (by omega)
  simpa using this
theorem spec_OidOk_l0 (o : List Int) (hn : o.length ≤ 1099511627776) (d : Nat) : ∀ (k i : Nat), o.length - i = d → d < k → i ≤ o.length → spec_OidOk.l0 k o (i : Int) = some ((o.drop i).all (fun n => decide (0 ≤ n ∧ n ≤ 100000)) && decide (1 ≤ o.length ∧ o.length ≤ 10)) := by
  induction d with
  | zero =>
    intro k i hd hk hi
    obtain ⟨k, rfl⟩ : ∃ m, k = m + 1 := ⟨k - 1, by omega⟩
    simp only [spec_OidOk.l0]
    rw [if_neg (by omega), spec_l1In_eq, Option.bind_some, List.drop_of_length_le (by omega), List.all_nil, Bool.true_and]
    congr 1
    exact decide_eq_decide.2 (by omega)
  | succ d ih =>
    intro k i hd hk hi
    obtain ⟨k, rfl⟩ : ∃ m, k = m + 1 := ⟨k - 1, by omega⟩
    simp only [spec_OidOk.l0]
    rw [if_pos (by omega), if_pos (by omega), spec_l1In_eq, Option.bind_some, w64 (n := (i : Int) + 1) (by omega) (by omega), show ((i : Int) + 1) = ((i + 1 : Nat) : Int) by omega, ih k (i + 1) (by omega) (by omega) (by omega), drop_cons_rd (l := o) (n := i) (by omega), List.all_cons]
    by_cases h : 0 ≤ rd o (i : Int) ∧ rd o (i : Int) ≤ 100000
    · rw [if_pos (decide_eq_true h), decide_eq_true h, Bool.true_and]
    · rw [if_neg (by simpa using h), decide_eq_false h, Bool.false_and, Bool.false_and]
theorem spec_OidOk_eq {o : List Int} (hn : o.length ≤ 1099511627776) {k : Nat} (hk : o.length < k) : spec_OidOk.f k o = some (oidOk o) := by
  unfold spec_OidOk.f oidOk
  have := spec_OidOk_l0 o hn o.length k 0 (by omega) hk (by omega)
  simpa using this
theorem list_ext_rd {a b : List Int} (hl : a.length = b.length) (h : ∀ i : Nat, i < a.length → rd a (i : Int) = rd b (i : Int)) : a = b := by
  apply List.ext_getElem hl
  intro i h1 h2
  have := h i h1
  simp only [rd, Int.toNat_natCast, List.getD_eq_getElem?_getD, List.getElem?_eq_getElem h1, List.getElem?_eq_getElem h2, Option.getD_some] at this
  exact this
theorem impl_SameOid_l0 (a b : List Int) (hl : a.length = b.length) (hn : a.length ≤ 1099511627776) (d : Nat) : ∀ (k i : Nat), a.length - i = d → d < k → i ≤ a.length → (∀ j : Nat, j < i → rd a (j : Int) = rd b (j : Int)) → impl_SameOid.l0 k a b (a.length : Int) (i : Int) = some (decide (a = b)) := by
  induction d with
  | zero =>
    intro k i hd hk hi hj
    obtain ⟨k, rfl⟩ : ∃ m, k = m + 1 := ⟨k - 1, by omega⟩
    simp only [impl_SameOid.l0]
    rw [if_neg (by omega), decide_eq_true (list_ext_rd hl (fun j h => hj j (by omega)))]
  | succ d ih =>
    intro k i hd hk hi hj
    obtain ⟨k, rfl⟩ : ∃ m, k = m + 1 := ⟨k - 1, by omega⟩
    simp only [impl_SameOid.l0]
    rw [if_pos (by omega), if_pos (by omega), if_pos (by omega), if_pos (by omega), w64 (n := (i : Int) + 1) (by omega) (by omega), show ((i : Int) + 1) = ((i + 1 : Nat) : Int) by omega]
    by_cases h : rd a (i : Int) = rd b (i : Int)
    · rw [if_pos h, ih k (i + 1) (by omega) (by omega) (by omega) (fun j hj2 => by rcases Nat.lt_succ_iff_lt_or_eq.1 hj2 with h2 | rfl; exact hj j h2; exact h)]
    · rw [if_neg h, decide_eq_false (fun e => h (by rw [e]))]
theorem impl_SameOid_eq {a b : List Int} (hn : a.length ≤ 1099511627776) {k : Nat} (hk : a.length < k) : impl_SameOid.f k a b = some (decide (a = b)) := by
  unfold impl_SameOid.f
  by_cases hl : a.length = b.length
  · rw [if_pos (by omega)]
    exact impl_SameOid_l0 a b hl hn a.length k 0 (by omega) hk (by omega) (fun j h => by omega)
  · rw [if_neg (by omega), decide_eq_false (fun e => hl (by rw [e]))]
theorem shr7 (v : Int) : shr .i64 v 0 = v ∧ shr .i64 v 7 = v / 128 ∧ shr .i64 v 14 = v / 16384 := by
  refine ⟨?_, ?_, ?_⟩
  · show v / 1 = v; omega
  · rfl
  · rfl
theorem impl_PutOid_one {v : Int} (h0 : 0 ≤ v) (h1 : v ≤ 100000) (x o : List Int) (n i : Int) (hx : x.length ≤ 100000) (k : Nat) : ∃ k', k ≤ k' ∧ impl_PutOid.l1 (k + 6) x v 0 o n i = impl_PutOid.l0 k' (x ++ group v) o n (wrap64 (i + 1)) := by
  have s := shr7 v
  have w1 : wrap64 (0 + 1) = 1 := w64 (by omega) (by omega)
  have w2 : wrap64 (1 + 1) = 2 := w64 (by omega) (by omega)
  have w3 : wrap64 (2 - 1) = 1 := w64 (by omega) (by omega)
  have w4 : wrap64 (1 - 1) = 0 := w64 (by omega) (by omega)
  have e0 : wrap64 (7 * 0) = 0 := w64 (by omega) (by omega)
  have e1 : wrap64 (7 * 1) = 7 := w64 (by omega) (by omega)
  have e2 : wrap64 (7 * 2) = 14 := w64 (by omega) (by omega)
  have last : Go.bits .and .i64 v 127 % 256 = v % 128 := by rw [and127 h0 (by omega)]; omega
  have mid : ∀ y : Int, 0 ≤ y → y ≤ 100000 → wrap64 (Go.bits .and .i64 y 127 + 128) % 256 = y % 128 + 128 := by
    intro y hy hy2
    rw [and127 hy (by omega), w64 (by omega) (by omega)]; omega
  have A : ∀ (k : Nat) (x : List Int), x.length ≤ 200000 → impl_PutOid.l2 (k + 1) x v 0 o n i = impl_PutOid.l0 k (x ++ [v % 128]) o n (wrap64 (i + 1)) := by
    intro k x hx
    rw [impl_PutOid.l2, if_neg (by omega), if_pos (by omega), last]
  have A1 : ∀ (k : Nat) (x : List Int), x.length ≤ 150000 → impl_PutOid.l2 (k + 2) x v 1 o n i = impl_PutOid.l0 k (x ++ [v / 128 % 128 + 128, v % 128]) o n (wrap64 (i + 1)) := by
    intro k x hx
    rw [impl_PutOid.l2, e1, if_pos (by omega), if_pos (by omega), if_pos (by omega), s.2.1, mid _ (by omega) (by omega), w4, A _ _ (by rw [List.length_append]; simp only [List.length_cons, List.length_nil]; omega), List.append_assoc]
    rfl
  have A2 : ∀ (k : Nat) (x : List Int), x.length ≤ 100000 → impl_PutOid.l2 (k + 3) x v 2 o n i = impl_PutOid.l0 k (x ++ [v / 16384 % 128 + 128, v / 128 % 128 + 128, v % 128]) o n (wrap64 (i + 1)) := by
    intro k x hx
    rw [impl_PutOid.l2, e2, if_pos (by omega), if_pos (by omega), if_pos (by omega), s.2.2, mid _ (by omega) (by omega), w3, A1 _ _ (by rw [List.length_append]; simp only [List.length_cons, List.length_nil]; omega), List.append_assoc]
    rfl
  unfold group
  by_cases c1 : v < 128
  · rw [if_pos c1]
    refine ⟨k + 4, by omega, ?_⟩
    rw [impl_PutOid.l1, e0, if_pos (by omega), s.1, if_neg (by omega), A _ _ (by omega), show v % 128 = v by omega]
  · rw [if_neg c1]
    by_cases c2 : v < 16384
    · rw [if_pos c2]
      refine ⟨k + 2, by omega, ?_⟩
      rw [impl_PutOid.l1, e0, if_pos (by omega), s.1, if_pos (by omega), w1, impl_PutOid.l1, e1, if_pos (by omega), s.2.1, if_neg (by omega), A1 _ _ (by omega), show v / 128 % 128 = v / 128 by omega]
    · rw [if_neg c2, if_pos (by omega)]
      refine ⟨k, by omega, ?_⟩
      rw [impl_PutOid.l1, e0, if_pos (by omega), s.1, if_pos (by omega), w1, impl_PutOid.l1, e1, if_pos (by omega), s.2.1, if_pos (by omega), w2, impl_PutOid.l1, e2, if_pos (by omega), s.2.2, if_neg (by omega), A2 _ _ (by omega), show v / 16384 % 128 = v / 16384 by omega]
theorem impl_PutOid_l0 (o : List Int) (hn : o.length ≤ 10) (ho : ∀ n ∈ o, 0 ≤ n ∧ n ≤ 100000) (d : Nat) : ∀ (k i : Nat) (x : List Int), o.length - i = d → 7 * d < k → i ≤ o.length → x.length + 3 * d ≤ 1000 → impl_PutOid.l0 k x o (o.length : Int) (i : Int) = some (x ++ (o.drop i).flatMap group) := by
  induction d with
  | zero =>
    intro k i x hd hk hi hx
    obtain ⟨k, rfl⟩ : ∃ m, k = m + 1 := ⟨k - 1, by omega⟩
    simp only [impl_PutOid.l0]
    rw [if_neg (by omega), List.drop_of_length_le (by omega)]
    simp
  | succ d ih =>
    intro k i x hd hk hi hx
    obtain ⟨k, rfl⟩ : ∃ m, k = m + 6 + 1 := ⟨k - 7, by omega⟩
    have hm := ho (rd o (i : Int)) (by rw [rd_nat, List.getD_eq_getElem?_getD, List.getElem?_eq_getElem (show i < o.length by omega)]; exact List.getElem_mem _)
    have hg := group_len (rd o (i : Int))
    simp only [impl_PutOid.l0]
    rw [if_pos (by omega), if_pos (by omega), if_pos (by omega)]
    obtain ⟨k', hk', e⟩ := impl_PutOid_one hm.1 hm.2 x o (o.length : Int) (i : Int) (by omega) k
    rw [e, w64 (n := (i : Int) + 1) (by omega) (by omega), show ((i : Int) + 1) = ((i + 1 : Nat) : Int) by omega, ih k' (i + 1) _ (by omega) (by omega) (by omega) (by rw [List.length_append]; have := hg.2.2 (by omega); omega), drop_cons_rd (l := o) (n := i) (by omega), List.flatMap_cons, List.append_assoc]
theorem impl_PutOid_eq {o : List Int} (hn : o.length ≤ 1099511627776) {k : Nat} (hk : o.length + 80 ≤ k) : impl_PutOid.f k o = some (putOid o) := by
  unfold impl_PutOid.f putOid
  rw [impl_OidOk_eq hn (by omega), Option.bind_some]
  by_cases h : oidOk o = true
  · have hh := oidOk_iff.1 h
    rw [if_pos h, if_pos h]
    have := impl_PutOid_l0 o (by omega) hh.1 o.length k 0 [] (by omega) (by omega) (by omega) (by simp; omega)
    simpa using this
  · rw [if_neg h, if_neg h]
theorem spec_l2Group_eq {n : Int} (h : G4 n) {k : Nat} (hk : 5 ≤ k) : spec_l2Group.f k n = some (group n) := by
  unfold G4 at h
  obtain ⟨k, rfl⟩ : ∃ m, k = m + 5 := ⟨k - 5, by omega⟩
  have last : Go.bits .and .i64 n 127 % 256 = n % 128 := by rw [and127 h.1 (by omega)]; omega
  have mid : ∀ y : Int, 0 ≤ y → y ≤ 100000000 → Go.bits .or .i64 (Go.bits .and .i64 y 127) 128 % 256 = y % 128 + 128 := by
    intro y hy hy2
    rw [and127 hy (by omega), or128 (by omega) (by omega)]; omega
  unfold spec_l2Group.f group
  rw [last]
  by_cases c1 : n < 128
  · rw [spec_l2Group.l0, if_neg (by omega), if_pos c1, show n % 128 = n by omega]
  · rw [if_neg c1, spec_l2Group.l0, if_pos (by omega), Option.bind_some, if_pos (by simp only [List.length_cons, List.length_nil]; omega), mid _ (by omega) (by omega)]
    by_cases c2 : n < 16384
    · rw [if_pos c2, spec_l2Group.l0, if_neg (by omega), show n / 128 % 128 = n / 128 by omega]
      rfl
    · rw [if_neg c2, spec_l2Group.l0, if_pos (by omega), Option.bind_some, if_pos (by simp only [List.length_append, List.length_cons, List.length_nil]; omega), mid _ (by omega) (by omega)]
      by_cases c3 : n < 2097152
      · rw [if_pos c3, spec_l2Group.l0, if_neg (by omega), show n / 128 / 128 = n / 16384 by omega, show n / 16384 % 128 = n / 16384 by omega]
        rfl
      · rw [if_neg c3, spec_l2Group.l0, if_pos (by omega), Option.bind_some, if_pos (by simp only [List.length_append, List.length_cons, List.length_nil]; omega), mid _ (by omega) (by omega), spec_l2Group.l0, if_neg (by omega), show n / 128 / 128 = n / 16384 by omega, show n / 16384 / 128 = n / 2097152 by omega, show n / 2097152 % 128 = n / 2097152 by omega]
        rfl
theorem spec_PutOid_l0 (o : List Int) (hn : o.length ≤ 10) (ho : ∀ n ∈ o, 0 ≤ n ∧ n ≤ 100000) (d : Nat) : ∀ (k i : Nat) (x : List Int), o.length - i = d → d + 5 < k → i ≤ o.length → x.length + 3 * d ≤ 1000 → spec_PutOid.l0 k o x (i : Int) = some (x ++ (o.drop i).flatMap group) := by
  induction d with
  | zero =>
    intro k i x hd hk hi hx
    obtain ⟨k, rfl⟩ : ∃ m, k = m + 1 := ⟨k - 1, by omega⟩
    simp only [spec_PutOid.l0]
    rw [if_neg (by omega), List.drop_of_length_le (by omega)]
    simp
  | succ d ih =>
    intro k i x hd hk hi hx
    obtain ⟨k, rfl⟩ : ∃ m, k = m + 1 := ⟨k - 1, by omega⟩
    have hm := ho (rd o (i : Int)) (by rw [rd_nat, List.getD_eq_getElem?_getD, List.getElem?_eq_getElem (show i < o.length by omega)]; exact List.getElem_mem _)
    have hg := group_len (rd o (i : Int))
    simp only [spec_PutOid.l0]
    rw [if_pos (by omega), if_pos (by omega), spec_l2Group_eq (show G4 _ by unfold G4; omega) (by omega), Option.bind_some, if_pos (by omega), w64 (n := (i : Int) + 1) (by omega) (by omega), show ((i : Int) + 1) = ((i + 1 : Nat) : Int) by omega, ih k (i + 1) _ (by omega) (by omega) (by omega) (by rw [List.length_append]; have := hg.2.2 (by omega); omega), drop_cons_rd (l := o) (n := i) (by omega), List.flatMap_cons, List.append_assoc]
theorem spec_PutOid_eq {o : List Int} (hn : o.length ≤ 1099511627776) {k : Nat} (hk : o.length + 20 ≤ k) : spec_PutOid.f k o = some (putOid o) := by
  unfold spec_PutOid.f putOid
  rw [Option.bind_some, spec_OidOk_eq hn (by omega), Option.bind_some]
  by_cases h : oidOk o = true
  · have hh := oidOk_iff.1 h
    rw [if_pos h, if_pos h]
    have := spec_PutOid_l0 o (by omega) hh.1 o.length k 0 [] (by omega) (by omega) (by omega) (by simp; omega)
    simpa using this
  · rw [if_neg h, if_neg h]
theorem impl_GetOid_end {b o : List Int} (hB : B b) (ho : o.length ≤ 100) {k : Nat} (hk : 180 ≤ k) : ((impl_PutOid.f k o).bind fun t => if (t.length : Int) = 0 then some (([] : List Int), false) else if (strOfNums t).toList = (strOfNums b).toList then some (o, true) else some ([], false)) = some (if (putOid o).length = 0 then ([], false) else if putOid o = b then (o, true) else ([], false)) := by
  rw [impl_PutOid_eq (by omega) (by omega), Option.bind_some]
  by_cases h : (putOid o).length = 0
  · rw [if_pos (by omega), if_pos h]
  · rw [if_neg (by omega), if_neg h]
    by_cases h2 : putOid o = b
    · rw [if_pos ((str_inj (putOid_B o) hB).2 h2), if_pos h2]
    · rw [if_neg (fun e => h2 ((str_inj (putOid_B o) hB).1 e)), if_neg h2]
theorem impl_GetOid_l0 (b : List Int) (hB : B b) (hn : b.length ≤ 1099511627776) (d : Nat) : ∀ (k i : Nat) (x : List Int) (n : Int), 40 - i = d → d + 181 ≤ k → i ≤ 40 → i ≤ b.length → 0 ≤ n → n ≤ 268435455 → x.length ≤ i → dec 0 b = x ++ dec n (b.drop i) → impl_GetOid.l0 k b x n b (b.length : Int) (i : Int) = some (getOid b) := by
  induction d with
  | zero =>
    intro k i x n hd hk h4 hi h0 h1 hx hdec
    obtain ⟨k, rfl⟩ : ∃ m, k = m + 1 := ⟨k - 1, by omega⟩
    simp only [impl_GetOid.l0]
    by_cases hlt : i < b.length
    · rw [if_pos (by omega), if_pos (by omega), if_pos (by omega), if_pos (by omega), getOid_no]
      rintro ⟨o, ho, e⟩
      have := putOid_len o
      rw [e] at this
      omega
    · rw [List.drop_of_length_le (by omega)] at hdec
      simp only [dec, List.append_nil] at hdec
      rw [if_neg (by omega), impl_GetOid_end hB (by omega) (by omega), getOid_dec, hdec]
  | succ d ih =>
    intro k i x n hd hk h4 hi h0 h1 hx hdec
    obtain ⟨k, rfl⟩ : ∃ m, k = m + 1 := ⟨k - 1, by omega⟩
    simp only [impl_GetOid.l0]
    by_cases hlt : i < b.length
    · have hb := hB.at_ (i : Int)
      have hm : 0 ≤ mn n 1048576 ∧ mn n 1048576 ≤ 1048576 := by unfold mn; omega
      rw [drop_cons_rd hlt] at hdec
      simp only [dec] at hdec
      rw [if_pos (by omega), if_pos (by omega), if_pos (by omega), if_neg (by omega), and127_u8 hb.1 hb.2, w64 (n := mn n 1048576 * 128) (by omega) (by omega), w64 (n := rd b (i : Int) % 128) (by omega) (by omega), or_seven hm.1 (by omega) (by omega) (by omega), w64 (n := (i : Int) + 1) (by omega) (by omega), show ((i : Int) + 1) = ((i + 1 : Nat) : Int) by omega]
      by_cases hs : rd b (i : Int) < 128
      · rw [if_pos hs] at hdec ⊢
        rw [if_pos (by omega)]
        exact ih k (i + 1) _ 0 (by omega) (by omega) (by omega) (by omega) (by omega) (by omega) (by rw [List.length_append, List.length_cons, List.length_nil]; omega) (by rw [hdec, List.append_assoc]; rfl)
      · rw [if_neg hs] at hdec ⊢
        exact ih k (i + 1) _ _ (by omega) (by omega) (by omega) (by omega) (by omega) (by omega) (by omega) hdec
    · rw [List.drop_of_length_le (by omega)] at hdec
      simp only [dec, List.append_nil] at hdec
      rw [if_neg (by omega), impl_GetOid_end hB (by omega) (by omega), getOid_dec, hdec]
theorem impl_GetOid_eq {b : List Int} (hB : B b) (hn : b.length ≤ 1099511627776) {k : Nat} (hk : 230 ≤ k) : impl_GetOid.f k b = some (getOid b) := by
  unfold impl_GetOid.f
  exact impl_GetOid_l0 b hB hn 40 k 0 [] 0 (by omega) (by omega) (by omega) (by omega) (by omega) (by omega) (by simp) (by simp)
theorem impl_SameVal_eq (k1 n1 : Int) (s1 : ByteArray) {o1 : List Int} (k2 n2 : Int) (s2 : ByteArray) (o2 : List Int) (hn : o1.length ≤ 1099511627776) {k : Nat} (hk : o1.length < k) : impl_SameVal.f k k1 n1 s1 o1 k2 n2 s2 o2 = some (decide (k1 = k2 ∧ n1 = n2 ∧ s1 = s2 ∧ o1 = o2)) := by
  unfold impl_SameVal.f
  rw [impl_SameOid_eq hn hk, Option.bind_some]
  by_cases h1 : k1 = k2
  · by_cases h2 : n1 = n2
    · by_cases h3 : s1 = s2
      · rw [if_pos h1, if_pos h2, if_pos (str_eq.2 h3)]
        congr 1; exact decide_eq_decide.2 (by simp [h1, h2, h3])
      · rw [if_pos h1, if_pos h2, if_neg (fun e => h3 (str_eq.1 e)), decide_eq_false (fun e => h3 e.2.2.1)]
    · rw [if_pos h1, if_neg h2, decide_eq_false (fun e => h2 e.2.1)]
  · rw [if_neg h1, decide_eq_false (fun e => h1 e.1)]
theorem bin_iff {a b : Bool} (h : a = true ↔ b = true) : a = b := Bool.eq_iff_iff.2 h
theorem size_iff (s : ByteArray) : s = (⟨#[]⟩ : ByteArray) ↔ s.size = 0 := ⟨fun h => by rw [h]; rfl, size0⟩
theorem impl_ValOk_eq (k1 n : Int) (s : ByteArray) {o : List Int} (hn : o.length ≤ 1099511627776) {k : Nat} (hk : o.length < k) : impl_ValOk.f k k1 n s o = some (valOk k1 n s o) := by
  unfold impl_ValOk.f valOk impl_isInt.f
  by_cases e1 : k1 = 2
  · rw [if_pos e1, if_pos e1, impl_in_eq, Option.bind_some, Option.bind_some]
    by_cases h : -2147483648 ≤ n ∧ n ≤ 2147483647
    · rw [if_pos (decide_eq_true h), impl_SameVal_eq _ _ _ _ _ _ _ hn hk, Option.bind_some]
      congr 1; exact decide_eq_decide.2 ⟨fun e => ⟨h.1, h.2, (size_iff s).1 e.2.2.1, by rw [e.2.2.2]; rfl⟩, fun e => ⟨rfl, rfl, size0 e.2.2.1, List.length_eq_zero_iff.1 e.2.2.2⟩⟩
    · rw [if_neg (by simpa using h), decide_eq_false (by omega)]
  · rw [if_neg e1, if_neg e1]
    by_cases e2 : k1 = 4
    · rw [if_pos e2, if_pos e2]
      by_cases h : (s.size : Int) ≤ 20
      · rw [if_pos h, impl_SameVal_eq _ _ _ _ _ _ _ hn hk, Option.bind_some]
        congr 1; exact decide_eq_decide.2 (by rw [← List.length_eq_zero_iff]; simp; omega)
      · rw [if_neg h, decide_eq_false (by omega)]
    · rw [if_neg e2, if_neg e2]
      by_cases e3 : k1 = 6
      · rw [if_pos e3, if_pos e3, impl_OidOk_eq hn hk, Option.bind_some]
        cases ok : oidOk o with
        | true =>
          rw [if_pos rfl, impl_SameVal_eq _ _ _ _ _ _ _ hn hk, Option.bind_some, Bool.true_and]
          congr 1; exact decide_eq_decide.2 (by rw [size_iff]; simp)
        | false => rw [if_neg (by decide), Bool.false_and]
      · rw [if_neg e3, if_neg e3]
        have fin : (impl_SameVal.f k k1 n s o k1 0 (⟨#[]⟩ : ByteArray) ([] : List Int)).bind (fun t => some t) = some (decide (n = 0 ∧ s.size = 0 ∧ o.length = 0)) := by
          rw [impl_SameVal_eq _ _ _ _ _ _ _ hn hk, Option.bind_some]
          congr 1; exact decide_eq_decide.2 (by rw [size_iff, ← List.length_eq_zero_iff]; simp)
        by_cases e4 : k1 = 5
        · rw [if_pos e4, if_pos (.inl e4), fin]
        · rw [if_neg e4]
          by_cases e5 : k1 = 128
          · rw [if_pos e5, if_pos (.inr (.inl e5)), fin]
          · rw [if_neg e5]
            by_cases e6 : k1 = 130
            · rw [if_pos e6, if_pos (.inr (.inr e6)), fin]
            · rw [if_neg e6, if_neg (by omega)]
theorem spec_ValOk_eq (k1 n : Int) (s : ByteArray) {o : List Int} (hn : o.length ≤ 1099511627776) {k : Nat} (hk : o.length + 1 < k) : spec_ValOk.f k k1 n s o = some (valOk k1 n s o) := by
  obtain ⟨k, rfl⟩ : ∃ m, k = m + 1 := ⟨k - 1, by omega⟩
  have yes : ∀ q, (k1 = 5 ∨ k1 = 128 ∨ k1 = 130) → spec_ValOk.j0 (k + 1) q true k1 n s o = some (valOk k1 n s o) := by
    intro q h
    have hv : valOk k1 n s o = decide (n = 0 ∧ s.size = 0 ∧ o.length = 0) := by
      unfold valOk
      rw [if_neg (by omega), if_neg (by omega), if_neg (by omega), if_pos h]
    rw [spec_ValOk.j0, if_pos rfl, hv]
    by_cases h1 : n = 0
    · rw [if_pos h1]
      by_cases h2 : s.toList = []
      · rw [if_pos h2]
        have := size_iff s
        congr 1; exact bin_iff (by rw [beq_iff_eq, decide_eq_true_iff]; exact ⟨fun e => ⟨h1, this.1 (toList_nil.1 h2), by omega⟩, fun e => by omega⟩)
      · rw [if_neg h2, decide_eq_false (fun e => h2 (toList_nil.2 (size0 e.2.1)))]
    · rw [if_neg h1, decide_eq_false (fun e => h1 e.1)]
  unfold spec_ValOk.f
  by_cases e1 : k1 = 5
  · rw [if_pos e1, beq_iff_eq.2 e1, yes _ (.inl e1)]
  · rw [if_neg e1]
    by_cases e2 : k1 = 128
    · rw [if_pos e2, beq_iff_eq.2 e2, yes _ (.inr (.inl e2))]
    · rw [if_neg e2]
      by_cases e3 : k1 = 130
      · rw [beq_iff_eq.2 e3, yes _ (.inr (.inr e3))]
      · rw [beq_eq_false_iff_ne.2 e3, spec_ValOk.j0, if_neg (by decide)]
        unfold valOk
        by_cases c1 : k1 = 2
        · rw [if_pos c1, if_pos c1, spec_l1Clip_eq, Option.bind_some]
          by_cases h1 : clip n = n
          · have hr := clip_range n
            rw [if_pos h1]
            by_cases h2 : s.toList = []
            · rw [if_pos h2]
              have := size_iff s
              congr 1; exact bin_iff (by rw [beq_iff_eq, decide_eq_true_iff]; exact ⟨fun e => ⟨by omega, by omega, this.1 (toList_nil.1 h2), by omega⟩, fun e => by omega⟩)
            · rw [if_neg h2, decide_eq_false (fun e => h2 (toList_nil.2 (size0 e.2.2.1)))]
          · rw [if_neg h1, decide_eq_false (fun e => h1 (clip_of e.1 e.2.1))]
        · rw [if_neg c1, if_neg c1]
          by_cases c2 : k1 = 4
          · rw [if_pos c2, if_pos c2]
            by_cases h1 : (s.size : Int) ≤ 20
            · rw [if_pos h1]
              by_cases h2 : n = 0
              · rw [if_pos h2]
                congr 1; exact bin_iff (by rw [beq_iff_eq, decide_eq_true_iff]; omega)
              · rw [if_neg h2, decide_eq_false (by omega)]
            · rw [if_neg h1, decide_eq_false (by omega)]
          · rw [if_neg c2, if_neg c2]
            by_cases c3 : k1 = 6
            · rw [if_pos c3, if_pos c3, spec_OidOk_eq hn (by omega), Option.bind_some]
              cases ok : oidOk o with
              | true =>
                rw [if_pos rfl, Bool.true_and]
                by_cases h2 : n = 0
                · rw [if_pos h2]
                  congr 1; exact bin_iff (by rw [beq_iff_eq, decide_eq_true_iff]; exact ⟨fun e => ⟨h2, (size_iff s).1 (toList_nil.1 e)⟩, fun e => toList_nil.2 (size0 e.2)⟩)
                · rw [if_neg h2, decide_eq_false (by omega)]
              | false => rw [if_neg (by decide), Bool.false_and]
            · rw [if_neg c3, if_neg c3, if_neg (by omega)]
theorem impl_PutVal_eq {p : List Int} (hp : p.length ≤ 1000000000000) (k1 n : Int) (s : ByteArray) {o : List Int} (hn : o.length ≤ 1099511627776) {k : Nat} (hk : o.length + 80 ≤ k) : impl_PutVal.f k p k1 n s o = some (putVal p k1 n s o) := by
  unfold impl_PutVal.f
  rw [impl_ValOk_eq k1 n s hn (by omega), Option.bind_some]
  cases ok : valOk k1 n s o with
  | false =>
    rw [if_neg (by decide), impl_copyBytes_eq' (by omega), Option.bind_some]
    unfold putVal
    rw [ok]; rfl
  | true =>
    have hv := valOk_kind ok
    have ht := putVal_tlv (p := p) ok
    rw [if_pos rfl]
    unfold valBody at hv ht
    by_cases e1 : k1 = 2
    · rw [if_pos e1] at hv ht
      rw [if_pos e1, impl_PutInt_eq n (by omega), Option.bind_some, impl_PutTlv_eq _ (by omega) (by omega) (by omega), Option.bind_some, ht]
    · rw [if_neg e1] at hv ht
      rw [if_neg e1]
      by_cases e2 : k1 = 4
      · rw [if_pos e2] at hv ht
        have := bytesOf_len s
        rw [if_pos e2, if_pos (by omega), impl_PutTlv_eq _ (by omega) (by omega) (by omega), Option.bind_some, ht]
      · rw [if_neg e2] at hv ht
        rw [if_neg e2]
        by_cases e3 : k1 = 6
        · rw [if_pos e3] at hv ht
          rw [if_pos e3, impl_PutOid_eq hn (by omega), Option.bind_some, impl_PutTlv_eq _ (by omega) (by omega) (by omega), Option.bind_some, ht]
        · rw [if_neg e3] at hv ht
          rw [if_neg e3, impl_PutTlv_eq _ (by omega) (by simp) (by omega), Option.bind_some, ht]
theorem spec_PutVal_eq {p : List Int} (hp : p.length ≤ 1000000000000) (k1 n : Int) (s : ByteArray) {o : List Int} (hn : o.length ≤ 1099511627776) {k : Nat} (hk : o.length + 30 ≤ k) : spec_PutVal.f k p k1 n s o = some (putVal p k1 n s o) := by
  unfold spec_PutVal.f
  rw [spec_ValOk_eq k1 n s hn (by omega), Option.bind_some]
  cases ok : valOk k1 n s o with
  | false =>
    rw [if_neg (by decide), Option.bind_some, if_pos (by simp only [List.length_nil]; omega)]
    unfold putVal
    rw [ok]; rfl
  | true =>
    have hv := valOk_kind ok
    have ht := putVal_tlv (p := p) ok
    rw [if_pos rfl]
    unfold valBody at hv ht
    by_cases e1 : k1 = 2
    · rw [if_pos e1] at hv ht
      rw [if_pos e1, spec_PutInt_eq n (by omega), Option.bind_some, spec_PutTlv_eq _ (by omega) (by omega) (by omega), Option.bind_some, ht]
    · rw [if_neg e1] at hv ht
      rw [if_neg e1]
      by_cases e2 : k1 = 4
      · rw [if_pos e2] at hv ht
        have := bytesOf_len s
        rw [if_pos e2, if_pos (by omega), spec_PutTlv_eq _ (by omega) (by omega) (by omega), Option.bind_some, ht]
      · rw [if_neg e2] at hv ht
        rw [if_neg e2]
        by_cases e3 : k1 = 6
        · rw [if_pos e3] at hv ht
          rw [if_pos e3, spec_PutOid_eq hn (by omega), Option.bind_some, spec_PutTlv_eq _ (by omega) (by omega) (by omega), Option.bind_some, ht]
        · rw [if_neg e3] at hv ht
          rw [if_neg e3, spec_PutTlv_eq _ (by omega) (by simp) (by omega), Option.bind_some, ht]
theorem valOk_int (n : Int) : valOk 2 n (⟨#[]⟩ : ByteArray) [] = decide (-2147483648 ≤ n ∧ n ≤ 2147483647) := by
  unfold valOk; rw [if_pos rfl]; exact decide_eq_decide.2 ⟨fun h => ⟨h.1, h.2.1⟩, fun h => ⟨h.1, h.2, rfl, rfl⟩⟩
theorem valOk_oid (o : List Int) : valOk 6 0 (⟨#[]⟩ : ByteArray) o = oidOk o := by
  unfold valOk; rw [if_neg (by decide), if_neg (by decide), if_pos rfl, show decide ((0 : Int) = 0 ∧ (⟨#[]⟩ : ByteArray).size = 0) = true from rfl, Bool.and_true]
theorem valOk_text (b : List Int) : valOk 4 0 (strOfNums b) [] = decide (b.length ≤ 20) := by
  unfold valOk; rw [if_neg (by decide), if_pos rfl, strOfNums_size]; exact decide_eq_decide.2 ⟨fun h => h.1, fun h => ⟨h, rfl, rfl⟩⟩
theorem ite_told {c : Prop} [Decidable c] (h : c) {t e : Int} : (if (if c then (t, (0 : Int), (⟨#[]⟩ : ByteArray), ([] : List Int), true) else (0, 0, (⟨#[]⟩ : ByteArray), [], false)).2.2.2.2 = true then ((if c then (t, (0 : Int), (⟨#[]⟩ : ByteArray), ([] : List Int), true) else (0, 0, (⟨#[]⟩ : ByteArray), [], false)).1, (if c then (t, (0 : Int), (⟨#[]⟩ : ByteArray), ([] : List Int), true) else (0, 0, (⟨#[]⟩ : ByteArray), [], false)).2.1, (if c then (t, (0 : Int), (⟨#[]⟩ : ByteArray), ([] : List Int), true) else (0, 0, (⟨#[]⟩ : ByteArray), [], false)).2.2.1, (if c then (t, (0 : Int), (⟨#[]⟩ : ByteArray), ([] : List Int), true) else (0, 0, (⟨#[]⟩ : ByteArray), [], false)).2.2.2.1, e, true) else ((0 : Int), (0 : Int), (⟨#[]⟩ : ByteArray), ([] : List Int), (0 : Int), false)) = (t, 0, (⟨#[]⟩ : ByteArray), [], e, true) := by
  simp [h]
theorem ite_untold {c : Prop} [Decidable c] (h : ¬ c) {t e : Int} : (if (if c then (t, (0 : Int), (⟨#[]⟩ : ByteArray), ([] : List Int), true) else (0, 0, (⟨#[]⟩ : ByteArray), [], false)).2.2.2.2 = true then ((if c then (t, (0 : Int), (⟨#[]⟩ : ByteArray), ([] : List Int), true) else (0, 0, (⟨#[]⟩ : ByteArray), [], false)).1, (if c then (t, (0 : Int), (⟨#[]⟩ : ByteArray), ([] : List Int), true) else (0, 0, (⟨#[]⟩ : ByteArray), [], false)).2.1, (if c then (t, (0 : Int), (⟨#[]⟩ : ByteArray), ([] : List Int), true) else (0, 0, (⟨#[]⟩ : ByteArray), [], false)).2.2.1, (if c then (t, (0 : Int), (⟨#[]⟩ : ByteArray), ([] : List Int), true) else (0, 0, (⟨#[]⟩ : ByteArray), [], false)).2.2.2.1, e, true) else ((0 : Int), (0 : Int), (⟨#[]⟩ : ByteArray), ([] : List Int), (0 : Int), false)) = (0, 0, (⟨#[]⟩ : ByteArray), [], 0, false) := by
  simp [h]
theorem impl_GetVal_eq {l : List Int} (hB : B l) (hl : l.length ≤ 1000000000000) {a : Int} (ha : -9223372036854775808 ≤ a ∧ a ≤ 9223372036854775807) {k : Nat} (hk : 300 ≤ k) : impl_GetVal.f k l a = some (getVal l a) := by
  unfold impl_GetVal.f getVal
  rw [impl_GetTlv_eq hB (by omega) ha, Option.bind_some]
  unfold tlv4
  cases ht : tlvAt l a with
  | none => dsimp only; rw [if_neg (by decide)]
  | some x =>
    obtain ⟨t, b, e⟩ := x
    have hr := tlvAt_range hB ht
    dsimp only
    rw [if_pos rfl]
    unfold tellVal
    by_cases e1 : t = 2
    · subst e1
      rw [if_pos rfl, if_pos rfl, impl_GetInt_eq hr.2.2.2.1 (by omega) (by omega), Option.bind_some]
      cases g : (getInt b).2 with
      | false => rw [if_neg (by decide)]; rfl
      | true =>
        have gb := getInt_bytes hr.2.2.2.1 (v := (getInt b).1) (by rw [← g])
        rw [if_pos rfl, impl_ValOk_eq _ _ _ (by simp) (by simp; omega), Option.bind_some, valOk_int, if_pos (decide_eq_true ⟨gb.2.1, gb.2.2⟩)]; rfl
    · rw [if_neg e1, if_neg e1]
      by_cases e2 : t = 4
      · subst e2
        rw [if_pos rfl, if_pos rfl, impl_ValOk_eq _ _ _ (by simp) (by simp; omega), Option.bind_some, valOk_text]
        by_cases h : b.length ≤ 20
        · rw [if_pos (decide_eq_true h), if_pos h]; rfl
        · rw [if_neg (by simpa using h), if_neg h]; rfl
      · rw [if_neg e2, if_neg e2]
        by_cases e3 : t = 6
        · subst e3
          rw [if_pos rfl, if_pos rfl, impl_GetOid_eq hr.2.2.2.1 (by omega) (by omega), Option.bind_some]
          cases g : (getOid b).2 with
          | false => rw [if_neg (by decide)]; rfl
          | true =>
            have gb := getOid_bytes (b := b) (o := (getOid b).1) (by rw [← g])
            have gl := getOid_len b
            rw [if_pos rfl, impl_ValOk_eq _ _ _ (by omega) (by omega), Option.bind_some, valOk_oid, gb.1, if_pos rfl]; rfl
        · rw [if_neg e3, if_neg e3]
          by_cases h : b.length = 0
          · rw [if_pos (by omega), impl_ValOk_eq _ _ _ (by simp) (by simp; omega), Option.bind_some]
            unfold valOk
            rw [if_neg e1, if_neg e2, if_neg e3]
            by_cases e4 : t = 5 ∨ t = 128 ∨ t = 130
            · rw [if_pos e4, if_pos (by decide), ite_told (show b.length = 0 ∧ (t = 5 ∨ t = 128 ∨ t = 130) from ⟨h, e4⟩)]
            · rw [if_neg e4, if_neg (by decide), ite_untold (show ¬ (b.length = 0 ∧ (t = 5 ∨ t = 128 ∨ t = 130)) from fun z => e4 z.2)]
          · rw [if_neg (by omega), ite_untold (show ¬ (b.length = 0 ∧ (t = 5 ∨ t = 128 ∨ t = 130)) from fun z => h z.1)]
theorem spec_l1Str_eq {l : List Int} (hl : l.length ≤ 1099511627776) {i : Int} (h0 : 0 ≤ i) (h1 : i ≤ l.length) (s : Int) {c : List ByteArray} (hc : 0 < c.length) : ∃ v i' s', spec_l1Str.f l i s c = some (v, i', s') ∧ v ∈ c ∧ 0 ≤ i' ∧ i' ≤ l.length := by
  unfold spec_l1Str.f
  obtain ⟨v, i, s, e, v0, v1, i0, i1⟩ := spec_l1Below_eq hl h0 h1 s (n := (c.length : Int)) (by omega)
  simp only [e, Option.bind_some]
  rw [if_pos v0, if_pos (by omega)]
  obtain ⟨j, rfl⟩ := Int.eq_ofNat_of_zero_le v0
  refine ⟨_, _, _, rfl, ?_, i0, i1⟩
  simp only [rdOf, Int.toNat_natCast, List.getD_eq_getElem?_getD, List.getElem?_eq_getElem (show j < c.length by omega), Option.getD_some]
  exact List.getElem_mem _
theorem spec_l1Num_eq {l : List Int} (hl : l.length ≤ 1099511627776) {i : Int} (h0 : 0 ≤ i) (h1 : i ≤ l.length) (s : Int) : ∃ v i' s', spec_l1Num.f l i s = some (v, i', s') ∧ 0 ≤ i' ∧ i' ≤ l.length := by
  unfold spec_l1Num.f
  obtain ⟨v, i, s, e, v0, v1, i0, i1⟩ := spec_l1Below_eq hl h0 h1 s (n := 1000) (by omega)
  simp only [e, Option.bind_some]
  obtain ⟨j, i, s, e, hj, i0, i1⟩ := spec_l1Int_eq hl i0 i1 s (c := [0, 1, (-1), 127, 128, (-128), (-129), 255, 256, 32767, 32768, (-32769), 8388608, 2147483647, (-2147483648), 2147483648, (-2147483649), 9223372036854775807, (-9223372036854775808), v]) (by simp)
  simp only [e, Option.bind_some]
  exact ⟨_, _, _, rfl, i0, i1⟩
theorem spec_l2Draw_l0 {b : List Int} (hb : b.length ≤ 1099511627776) (d : Nat) : ∀ (k : Nat) (x : List Int) (n i s : Int), n ≤ d → 0 ≤ n → n ≤ 100 → d < k → x.length + d ≤ 1000 → 0 ≤ i → i ≤ b.length → ∃ x' i' s', spec_l2Draw.l0 k x n b i s = some (x', i', s') ∧ x'.length ≤ x.length + d ∧ x.length ≤ x'.length ∧ 0 ≤ i' ∧ i' ≤ b.length := by
  induction d with
  | zero =>
    intro k x n i s hd h0 hn hk hx i0 i1
    obtain ⟨k, rfl⟩ : ∃ m, k = m + 1 := ⟨k - 1, by omega⟩
    simp only [spec_l2Draw.l0]
    rw [if_neg (by omega)]
    exact ⟨_, _, _, rfl, by omega, by omega, i0, i1⟩
  | succ d ih =>
    intro k x n i s hd h0 hn hk hx i0 i1
    obtain ⟨k, rfl⟩ : ∃ m, k = m + 1 := ⟨k - 1, by omega⟩
    simp only [spec_l2Draw.l0]
    by_cases h : n > 0
    · rw [if_pos h]
      obtain ⟨j, i, s, e, hj, i0, i1⟩ := spec_l1Int_eq hb i0 i1 s (c := [0, 1, 2, 3, 127, 128, 16384, 100000]) (by simp)
      simp only [e, Option.bind_some]
      rw [if_pos (by omega), w64 (n := n - 1) (by omega) (by omega)]
      obtain ⟨x', i', s', e, hx', hx2, i0, i1⟩ := ih k (x ++ [rd [0, 1, 2, 3, 127, 128, 16384, 100000] (j : Int)]) (n - 1) i s (by omega) (by omega) (by omega) (by omega) (by rw [List.length_append, List.length_cons, List.length_nil]; omega) i0 i1
      rw [List.length_append, List.length_cons, List.length_nil] at hx' hx2
      exact ⟨_, _, _, e, by omega, by omega, i0, i1⟩
    · rw [if_neg h]
      exact ⟨_, _, _, rfl, by omega, by omega, i0, i1⟩
theorem spec_l2Draw_eq {b : List Int} (hb : b.length ≤ 1099511627776) {i : Int} (h0 : 0 ≤ i) (h1 : i ≤ b.length) (s : Int) {k : Nat} (hk : 10 ≤ k) : ∃ x i' s', spec_l2Draw.f k b i s = some (x, i', s') ∧ 1 ≤ x.length ∧ x.length ≤ 6 ∧ 0 ≤ i' ∧ i' ≤ b.length := by
  unfold spec_l2Draw.f
  obtain ⟨v, i, s, e, v0, v1, i0, i1⟩ := spec_l1Below_eq hb h0 h1 s (n := 6) (by omega)
  simp only [e, Option.bind_some]
  rw [w64 (n := 1 + v) (by omega) (by omega)]
  obtain ⟨k, rfl⟩ : ∃ m, k = m + 1 := ⟨k - 1, by omega⟩
  simp only [spec_l2Draw.l0]
  rw [if_pos (by omega)]
  obtain ⟨j, i, s, e, hj, i0, i1⟩ := spec_l1Int_eq hb i0 i1 s (c := [0, 1, 2, 3, 127, 128, 16384, 100000]) (by simp)
  simp only [e, Option.bind_some]
  rw [if_pos (by simp), w64 (n := 1 + v - 1) (by omega) (by omega)]
  obtain ⟨x', i', s', e, hx', hx2, i0, i1⟩ := spec_l2Draw_l0 hb 5 k ([] ++ [rd [0, 1, 2, 3, 127, 128, 16384, 100000] (j : Int)]) (1 + v - 1) i s (by omega) (by omega) (by omega) (by omega) (by simp) i0 i1
  simp only [List.nil_append, List.length_cons, List.length_nil] at hx' hx2
  exact ⟨_, _, _, e, by omega, by omega, i0, i1⟩
theorem spec_l2Any_l0 {b : List Int} (hb : b.length ≤ 1099511627776) (d : Nat) : ∀ (k : Nat) (x : List Int) (i s : Int), 11 - x.length = d → d < k → 1 ≤ x.length → x.length ≤ 11 → 0 ≤ i → i ≤ b.length → ∃ x' i' s', spec_l2Any.l0 k x b i s = some (x', i', s') ∧ x'.length ≤ 11 ∧ 0 ≤ i' ∧ i' ≤ b.length := by
  induction d with
  | zero =>
    intro k x i s hd hk hx hx2 i0 i1
    obtain ⟨k, rfl⟩ : ∃ m, k = m + 1 := ⟨k - 1, by omega⟩
    simp only [spec_l2Any.l0]
    obtain ⟨v, i, s, e, v0, v1, i0, i1⟩ := spec_l1Below_eq hb i0 i1 s (n := 2) (by omega)
    simp only [e, Option.bind_some]
    rw [w64 (n := 10 + v) (by omega) (by omega), if_neg (by omega)]
    exact ⟨_, _, _, rfl, by omega, i0, i1⟩
  | succ d ih =>
    intro k x i s hd hk hx hx2 i0 i1
    obtain ⟨k, rfl⟩ : ∃ m, k = m + 1 := ⟨k - 1, by omega⟩
    simp only [spec_l2Any.l0]
    obtain ⟨v, i, s, e, v0, v1, i0, i1⟩ := spec_l1Below_eq hb i0 i1 s (n := 2) (by omega)
    simp only [e, Option.bind_some]
    rw [w64 (n := 10 + v) (by omega) (by omega)]
    by_cases h : (x.length : Int) < 10 + v
    · rw [if_pos h, if_pos (by omega)]
      exact ih k (x ++ [1]) i s (by rw [List.length_append, List.length_cons, List.length_nil]; omega) (by omega) (by rw [List.length_append, List.length_cons, List.length_nil]; omega) (by rw [List.length_append, List.length_cons, List.length_nil]; omega) i0 i1
    · rw [if_neg h]
      exact ⟨_, _, _, rfl, by omega, i0, i1⟩
theorem spec_l2Any_eq {b : List Int} (hb : b.length ≤ 1099511627776) {i : Int} (h0 : 0 ≤ i) (h1 : i ≤ b.length) (s : Int) {k : Nat} (hk : 20 ≤ k) : ∃ x i' s', spec_l2Any.f k b i s = some (x, i', s') ∧ x.length ≤ 11 ∧ 0 ≤ i' ∧ i' ≤ b.length := by
  unfold spec_l2Any.f
  obtain ⟨x, i, s, e, hx, hx2, i0, i1⟩ := spec_l2Draw_eq hb h0 h1 s (k := k) (by omega)
  simp only [e, Option.bind_some]
  obtain ⟨v, i, s, e, v0, v1, i0, i1⟩ := spec_l1Below_eq hb i0 i1 s (n := 10) (by omega)
  simp only [e, Option.bind_some]
  by_cases c0 : v = 0
  · rw [if_pos c0]
    exact ⟨_, _, _, rfl, by simp, i0, i1⟩
  · rw [if_neg c0]
    by_cases c1 : v = 1
    · rw [if_pos c1]
      obtain ⟨j, i, s, e, hj, i0, i1⟩ := spec_l1Int_eq hb i0 i1 s (c := [-1, 100001]) (by simp)
      simp only [e, Option.bind_some]
      rw [if_pos (by omega)]
      exact ⟨_, _, _, rfl, by rw [List.length_set]; omega, i0, i1⟩
    · rw [if_neg c1]
      by_cases c2 : v = 2
      · rw [if_pos c2]
        exact spec_l2Any_l0 hb _ k x i s rfl (by omega) hx (by omega) i0 i1
      · rw [if_neg c2]
        exact ⟨_, _, _, rfl, by omega, i0, i1⟩
theorem spec_l3Draw_eq {b : List Int} (hb : b.length ≤ 1099511627776) {i : Int} (h0 : 0 ≤ i) (h1 : i ≤ b.length) (s : Int) {k : Nat} (hk : 20 ≤ k) : ∃ t n x o i' s', spec_l3Draw.f k b i s = some (t, n, x, o, i', s') ∧ x.size ≤ 4 ∧ o.length ≤ 6 ∧ 0 ≤ i' ∧ i' ≤ b.length := by
  obtain ⟨k, rfl⟩ : ∃ m, k = m + 1 := ⟨k - 1, by omega⟩
  have z : (⟨#[]⟩ : ByteArray).size = 0 := rfl
  have go : ∀ (v : Int) (y : Bool) (i s : Int), 0 ≤ i → i ≤ b.length → ∃ t n x o i' s', spec_l3Draw.j0 (k + 1) v y b i s = some (t, n, x, o, i', s') ∧ x.size ≤ 4 ∧ o.length ≤ 6 ∧ 0 ≤ i' ∧ i' ≤ b.length := by
    intro v y i s i0 i1
    simp only [spec_l3Draw.j0]
    cases y with
    | true =>
      rw [if_pos rfl]
      obtain ⟨v, i, s, e, i0, i1⟩ := spec_l1Num_eq hb i0 i1 s
      simp only [e, Option.bind_some, spec_l1Clip_eq, spec_l3Int.f]
      exact ⟨_, _, _, _, _, _, rfl, by omega, by simp, i0, i1⟩
    | false =>
      rw [if_neg (by decide)]
      by_cases c3 : v = 3
      · rw [if_pos c3]
        obtain ⟨v, i, s, e, hv, i0, i1⟩ := spec_l1Str_eq hb i0 i1 s (c := [(⟨#[]⟩ : ByteArray), (⟨#[97]⟩ : ByteArray), (⟨#[121, 97, 114, 100]⟩ : ByteArray), (⟨#[0]⟩ : ByteArray)]) (by simp)
        simp only [e, Option.bind_some]
        refine ⟨_, _, _, _, _, _, rfl, ?_, by simp, i0, i1⟩
        simp only [List.mem_cons, List.not_mem_nil, or_false] at hv
        rcases hv with rfl | rfl | rfl | rfl <;> decide
      · rw [if_neg c3]
        by_cases c4 : v = 4
        · rw [if_pos c4]
          obtain ⟨x, i, s, e, hx, hx2, i0, i1⟩ := spec_l2Draw_eq hb i0 i1 s (k := k) (by omega)
          simp only [e, Option.bind_some]
          exact ⟨_, _, _, _, _, _, rfl, by omega, by omega, i0, i1⟩
        · rw [if_neg c4]
          obtain ⟨j, i, s, e, hj, i0, i1⟩ := spec_l1Int_eq hb i0 i1 s (c := [128, 130]) (by simp)
          simp only [e, Option.bind_some]
          exact ⟨_, _, _, _, _, _, rfl, by omega, by simp, i0, i1⟩
  unfold spec_l3Draw.f
  obtain ⟨v, i, s, e, v0, v1, i0, i1⟩ := spec_l1Below_eq hb h0 h1 s (n := 6) (by omega)
  simp only [e, Option.bind_some]
  by_cases c0 : v = 0
  · rw [if_pos c0]
    exact ⟨_, _, _, _, _, _, rfl, by omega, by simp, i0, i1⟩
  · rw [if_neg c0]
    by_cases c1 : v = 1
    · rw [if_pos c1]; exact go _ _ _ _ i0 i1
    · rw [if_neg c1]; exact go _ _ _ _ i0 i1
theorem spec_l3Any_eq {b : List Int} (hb : b.length ≤ 1099511627776) {i : Int} (h0 : 0 ≤ i) (h1 : i ≤ b.length) (s : Int) {k : Nat} (hk : 20 ≤ k) : ∃ t n x o i' s', spec_l3Any.f k b i s = some (t, n, x, o, i', s') ∧ x.size ≤ 21 ∧ o.length ≤ 11 ∧ 0 ≤ i' ∧ i' ≤ b.length := by
  unfold spec_l3Any.f
  obtain ⟨t, n, x, o, i, s, e, hx, ho, i0, i1⟩ := spec_l3Draw_eq hb h0 h1 s hk
  simp only [e, Option.bind_some]
  obtain ⟨v, i, s, e, v0, v1, i0, i1⟩ := spec_l1Below_eq hb i0 i1 s (n := 12) (by omega)
  simp only [e, Option.bind_some]
  by_cases c0 : v = 0
  · rw [if_pos c0]
    obtain ⟨j, i, s, e, hj, i0, i1⟩ := spec_l1Int_eq hb i0 i1 s (c := [0, 1, 2, 4, 5, 6, 128, 129, 130]) (by simp)
    simp only [e, Option.bind_some]
    exact ⟨_, _, _, _, _, _, rfl, by omega, by omega, i0, i1⟩
  · rw [if_neg c0]
    by_cases c1 : v = 1
    · rw [if_pos c1]
      obtain ⟨v, i, s, e, i0, i1⟩ := spec_l1Num_eq hb i0 i1 s
      simp only [e, Option.bind_some]
      exact ⟨_, _, _, _, _, _, rfl, by omega, by omega, i0, i1⟩
    · rw [if_neg c1]
      by_cases c2 : v = 2
      · rw [if_pos c2]
        obtain ⟨v, i, s, e, v0, v1, i0, i1⟩ := spec_l1Below_eq hb i0 i1 s (n := 2) (by omega)
        simp only [e, Option.bind_some]
        rw [w64 (n := 20 + v) (by omega) (by omega), if_pos (by omega), if_pos (by omega)]
        exact ⟨_, _, _, _, _, _, rfl, by rw [strOfNums_size, List.length_replicate]; omega, by omega, i0, i1⟩
      · rw [if_neg c2]
        by_cases c3 : v = 3
        · rw [if_pos c3]
          obtain ⟨o, i, s, e, ho, i0, i1⟩ := spec_l2Any_eq hb i0 i1 s (k := k) (by omega)
          simp only [e, Option.bind_some]
          exact ⟨_, _, _, _, _, _, rfl, by omega, by omega, i0, i1⟩
        · rw [if_neg c3]
          exact ⟨_, _, _, _, _, _, rfl, by omega, by omega, i0, i1⟩
/-! ### a bind -/
def bindOk (x : S116) : Bool := oidOk x.f0 && valOk x.f1.f0 x.f1.f1 x.f1.f2 x.f1.f3
def bindBytes (x : S116) : List Int := tlv 6 (putOid x.f0) ++ tlv x.f1.f0 (valBody x.f1.f0 x.f1.f1 x.f1.f2 x.f1.f3)
def bindsBytes (l : List S116) : List Int := l.flatMap fun x => tlv 48 (bindBytes x)
theorem bindOk_iff {x : S116} : bindOk x = true ↔ oidOk x.f0 = true ∧ valOk x.f1.f0 x.f1.f1 x.f1.f2 x.f1.f3 = true := by unfold bindOk; rw [Bool.and_eq_true]
theorem bindBytes_put {x : S116} (h : bindOk x = true) : putVal (putTlv [] 6 (putOid x.f0)) x.f1.f0 x.f1.f1 x.f1.f2 x.f1.f3 = bindBytes x := by
  have ho := putOid_len x.f0
  unfold putVal putTlv bindBytes
  rw [if_pos (bindOk_iff.1 h).2, if_pos (by omega)]; rfl
theorem bindBytes_len {x : S116} (h : bindOk x = true) : 4 ≤ (bindBytes x).length ∧ (bindBytes x).length ≤ 64 := by
  have hv := valOk_kind (bindOk_iff.1 h).2
  have ho := putOid_len x.f0
  unfold bindBytes
  rw [List.length_append, tlv_len, tlv_len, if_neg (by omega), if_neg (by omega)]
  omega
theorem bindBytes_B {x : S116} (h : bindOk x = true) : B (bindBytes x) := by
  have hv := valOk_kind (bindOk_iff.1 h).2
  have ho := putOid_len x.f0
  unfold bindBytes
  exact (tlv_B (putOid_B _) (by omega)).app (tlv_B hv.2.2.2 (by omega))
theorem bindsBytes_cons (x : S116) (l : List S116) : bindsBytes (x :: l) = tlv 48 (bindBytes x) ++ bindsBytes l := by unfold bindsBytes; rw [List.flatMap_cons]
theorem bindsBytes_app (l m : List S116) : bindsBytes (l ++ m) = bindsBytes l ++ bindsBytes m := by unfold bindsBytes; rw [List.flatMap_append]
theorem bindsBytes_one (x : S116) : bindsBytes [x] = tlv 48 (bindBytes x) := by unfold bindsBytes; simp
theorem bindsBytes_B {l : List S116} (h : ∀ x ∈ l, bindOk x = true) : B (bindsBytes l) := fun y hy => by
  obtain ⟨x, hx, hy⟩ := List.mem_flatMap.1 hy
  have := bindBytes_len (h x hx)
  exact tlv_B (bindBytes_B (h x hx)) (by omega) y hy
theorem bindsBytes_len : ∀ {l : List S116}, (∀ x ∈ l, bindOk x = true) → 6 * l.length ≤ (bindsBytes l).length ∧ (bindsBytes l).length ≤ 66 * l.length
  | [], _ => by simp [bindsBytes]
  | x :: l, h => by
    have h1 := bindBytes_len (h x List.mem_cons_self)
    have h2 := bindsBytes_len (l := l) fun y hy => h y (List.mem_cons_of_mem _ hy)
    rw [bindsBytes_cons, List.length_append, tlv_len, if_neg (by omega), List.length_cons]
    omega
/-! ### requests and answers -/
def headOk (kd a b : Int) : Bool := decide ((kd = 160 ∨ kd = 161 ∨ kd = 163) ∧ a = 0 ∧ b = 0 ∨ (kd = 162 ∨ kd = 165) ∧ 0 ≤ a ∧ a ≤ 1000 ∧ 0 ≤ b ∧ b ≤ 1000)
def pduOk (kd id a b : Int) (l : List S116) : Bool :=
  headOk kd a b && (l.all bindOk && decide (l.length ≤ 10 ∧ -2147483648 ≤ id ∧ id ≤ 2147483647))
theorem pduOk_iff {kd id a b : Int} {l : List S116} : pduOk kd id a b l = true ↔ ((kd = 160 ∨ kd = 161 ∨ kd = 163) ∧ a = 0 ∧ b = 0 ∨ (kd = 162 ∨ kd = 165) ∧ 0 ≤ a ∧ a ≤ 1000 ∧ 0 ≤ b ∧ b ≤ 1000) ∧ (∀ x ∈ l, bindOk x = true) ∧ l.length ≤ 10 ∧ -2147483648 ≤ id ∧ id ≤ 2147483647 := by
  unfold pduOk headOk
  rw [Bool.and_eq_true, Bool.and_eq_true, decide_eq_true_iff, decide_eq_true_iff, List.all_eq_true]
def pduBody (id a b : Int) (l : List S116) : List Int := tlv 2 (putInt id) ++ (tlv 2 (putInt a) ++ (tlv 2 (putInt b) ++ tlv 48 (bindsBytes l)))
def putPdu (kd id a b : Int) (l : List S116) : List Int :=
  if pduOk kd id a b l = true ∧ (bindsBytes l).length ≤ 250 ∧ (pduBody id a b l).length ≤ 250 then tlv kd (pduBody id a b l) else []
theorem putPdu_len (kd id a b : Int) (l : List S116) : (putPdu kd id a b l).length ≤ 253 := by
  unfold putPdu
  split
  · rw [tlv_len]; split <;> omega
  · simp
theorem putPdu_some {kd id a b : Int} {l : List S116} (h : putPdu kd id a b l ≠ []) : pduOk kd id a b l = true ∧ (bindsBytes l).length ≤ 250 ∧ (pduBody id a b l).length ≤ 250 ∧ putPdu kd id a b l = tlv kd (pduBody id a b l) := by
  unfold putPdu at h ⊢
  split at h
  · rename_i g; rw [if_pos g]; exact ⟨g.1, g.2.1, g.2.2, rfl⟩
  · exact absurd rfl h
theorem pduBody_B {kd id a b : Int} {l : List S116} (h : pduOk kd id a b l = true) (hl : (bindsBytes l).length ≤ 250) : B (pduBody id a b l) := by
  have h1 := putInt_len id
  have h2 := putInt_len a
  have h3 := putInt_len b
  unfold pduBody
  exact (tlv_B (putInt_B _) (by omega)).app ((tlv_B (putInt_B _) (by omega)).app ((tlv_B (putInt_B _) (by omega)).app (tlv_B (bindsBytes_B (pduOk_iff.1 h).2.1) (by omega))))
theorem putPdu_B (kd id a b : Int) (l : List S116) : B (putPdu kd id a b l) := by
  by_cases h : putPdu kd id a b l = []
  · rw [h]; exact B.nil
  · obtain ⟨h1, h2, h3, h4⟩ := putPdu_some h
    rw [h4]
    exact tlv_B (pduBody_B h1 h2) (by omega)
theorem rdB_cons {l : List S116} {n : Nat} (h : n < l.length) : l.drop n = rd_T116 l (n : Int) :: l.drop (n + 1) := by
  rw [List.drop_eq_getElem_cons h]
  congr 1
  unfold rd_T116
  rw [Int.toNat_natCast, List.getD_eq_getElem?_getD, List.getElem?_eq_getElem h]; rfl
theorem rdB_mem {l : List S116} {n : Nat} (h : n < l.length) : rd_T116 l (n : Int) ∈ l := by
  have := rdB_cons h
  exact List.mem_of_mem_drop (this ▸ List.mem_cons_self)
/-- No name in it is longer. -/
def Short (M : Nat) (l : List S116) : Prop := M ≤ 1099511627776 ∧ l.length ≤ 1099511627776 ∧ ∀ x ∈ l, x.f0.length ≤ M ∧ x.f1.f3.length ≤ M
theorem impl_PduOk_l0 (l : List S116) (M : Nat) (hM : Short M l) (kd id a b : Int) (d : Nat) : ∀ (k i : Nat), l.length - i = d → d + M + 1 < k → i ≤ l.length → i ≤ 10 → impl_PduOk.l0 k l (l.length : Int) (i : Int) kd id a b l = some ((l.drop i).all bindOk && decide (l.length ≤ 10 ∧ -2147483648 ≤ id ∧ id ≤ 2147483647)) := by
  have hn := hM.2.1
  induction d with
  | zero =>
    intro k i hd hk hi h10
    obtain ⟨k, rfl⟩ : ∃ m, k = m + 1 := ⟨k - 1, by omega⟩
    simp only [impl_PduOk.l0, impl_isInt.f]
    rw [if_neg (by omega), impl_in_eq, Option.bind_some, Option.bind_some, List.drop_of_length_le (by omega), List.all_nil, Bool.true_and]
    congr 1; exact decide_eq_decide.2 (by omega)
  | succ d ih =>
    intro k i hd hk hi h10
    obtain ⟨k, rfl⟩ : ∃ m, k = m + 1 := ⟨k - 1, by omega⟩
    have hlt : i < l.length := by omega
    have hx := hM.2.2 _ (rdB_mem hlt)
    have hM1 := hM.1
    simp only [impl_PduOk.l0]
    rw [if_pos (by omega), if_pos (by omega), if_pos (by omega)]
    by_cases h : i = 10
    · rw [if_pos (by omega), decide_eq_false (by omega), Bool.and_false]
    · rw [if_neg (by omega), impl_OidOk_eq (by omega) (by omega), Option.bind_some, rdB_cons hlt, List.all_cons]
      unfold bindOk
      cases h1 : oidOk (rd_T116 l (i : Int)).f0 with
      | false => rw [if_neg (by decide)]; simp
      | true =>
        rw [if_pos rfl, impl_ValOk_eq _ _ _ (by omega) (by omega), Option.bind_some]
        cases h2 : valOk (rd_T116 l (i : Int)).f1.f0 (rd_T116 l (i : Int)).f1.f1 (rd_T116 l (i : Int)).f1.f2 (rd_T116 l (i : Int)).f1.f3 with
        | false => rw [if_neg (by decide)]; simp
        | true =>
          rw [if_pos rfl, w64 (by omega) (by omega), show (i : Int) + 1 = ((i + 1 : Nat) : Int) by omega, ih k (i + 1) (by omega) (by omega) (by omega) (by omega)]
          rfl
theorem impl_PduOk_eq {l : List S116} {M : Nat} (hM : Short M l) (kd id a b : Int) {k : Nat} (hk : l.length + M + 6 ≤ k) : impl_PduOk.f k kd id a b l = some (pduOk kd id a b l) := by
  obtain ⟨k, rfl⟩ : ∃ m, k = m + 4 := ⟨k - 4, by omega⟩
  have e : ∀ m, l.length + M + 2 ≤ m → impl_PduOk.j2 (m + 1) kd id a b l = some (l.all bindOk && decide (l.length ≤ 10 ∧ -2147483648 ≤ id ∧ id ≤ 2147483647)) := by
    intro m hm
    simp only [impl_PduOk.j2]
    exact impl_PduOk_l0 l M hM kd id a b l.length m 0 (by omega) (by omega) (by omega) (by omega)
  have e1 : ∀ m, l.length + M + 3 ≤ m → impl_PduOk.j1 (m + 1) (kd == 162 || kd == 165) kd id a b l = some (if (kd = 162 ∨ kd = 165) ∧ 0 ≤ a ∧ a ≤ 1000 ∧ 0 ≤ b ∧ b ≤ 1000 then l.all bindOk && decide (l.length ≤ 10 ∧ -2147483648 ≤ id ∧ id ≤ 2147483647) else false) := by
    intro m hm
    obtain ⟨m, rfl⟩ : ∃ q, m = q + 1 := ⟨m - 1, by omega⟩
    simp only [impl_PduOk.j1]
    by_cases h : kd = 162 ∨ kd = 165
    · rw [if_pos (by simpa using h), impl_in_eq, Option.bind_some]
      by_cases h1 : 0 ≤ a ∧ a ≤ 1000
      · rw [if_pos (decide_eq_true h1), impl_in_eq, Option.bind_some]
        by_cases h2 : 0 ≤ b ∧ b ≤ 1000
        · rw [if_pos (decide_eq_true h2), e m (by omega), if_pos ⟨h, h1.1, h1.2, h2⟩]
        · rw [if_neg (by simpa using h2), if_neg (fun z => h2 z.2.2.2)]
      · rw [if_neg (by simpa using h1), if_neg (fun z => h1 ⟨z.2.1, z.2.2.1⟩)]
    · rw [if_neg (by simpa using h), if_neg (fun z => h z.1)]
  have e0 : impl_PduOk.f (k + 4) kd id a b l = impl_PduOk.j0 (k + 4) kd (kd == 160 || (kd == 161 || kd == 163)) kd id a b l := by
    unfold impl_PduOk.f
    by_cases h : kd = 160
    · rw [if_pos h]; subst h; rfl
    · rw [if_neg h]
      by_cases h1 : kd = 161
      · rw [if_pos h1]; subst h1; rfl
      · rw [if_neg h1, beq_eq_false_iff_ne.2 h, beq_eq_false_iff_ne.2 h1]; rfl
  rw [e0]
  simp only [impl_PduOk.j0]
  unfold pduOk
  by_cases h : kd = 160 ∨ kd = 161 ∨ kd = 163
  · rw [if_pos (by simpa using h)]
    by_cases h1 : a = 0
    · rw [if_pos h1]
      by_cases h2 : b = 0
      · rw [if_pos h2, e _ (by omega), show headOk kd a b = true from decide_eq_true (.inl ⟨h, h1, h2⟩), Bool.true_and]
      · rw [if_neg h2, show headOk kd a b = false from decide_eq_false (by omega), Bool.false_and]
    · rw [if_neg h1, show headOk kd a b = false from decide_eq_false (by omega), Bool.false_and]
  · rw [if_neg (by simpa using h)]
    have e2 : (if kd = 162 then impl_PduOk.j1 (k + 3) (kd == 162) kd id a b l else impl_PduOk.j1 (k + 3) (kd == 165) kd id a b l) = impl_PduOk.j1 (k + 3) (kd == 162 || kd == 165) kd id a b l := by
      by_cases h1 : kd = 162
      · rw [if_pos h1]; subst h1; rfl
      · rw [if_neg h1, beq_eq_false_iff_ne.2 h1]; rfl
    rw [e2, e1 _ (by omega)]
    congr 1
    by_cases h1 : (kd = 162 ∨ kd = 165) ∧ 0 ≤ a ∧ a ≤ 1000 ∧ 0 ≤ b ∧ b ≤ 1000
    · rw [if_pos h1, show headOk kd a b = true from decide_eq_true (.inr h1), Bool.true_and]
    · rw [if_neg h1, show headOk kd a b = false from decide_eq_false (by omega), Bool.false_and]
theorem spec_l4Kind_eq (a : Int) : spec_l4Kind.f a = some (decide (a = 160 ∨ a = 161 ∨ a = 162 ∨ a = 163 ∨ a = 165)) := by
  unfold spec_l4Kind.f
  repeat' split
  all_goals first | (rw [decide_eq_true (by omega)]; done) | exact congrArg some (decide_eq_decide.2 (by omega))
theorem spec_PduOk_end (kd id a b : Int) (l : List S116) (hn : l.length ≤ 1099511627776) (k : Nat) : (if kd = 162 then (spec_PduOk.j1 (k + 1) false kd id a b l) else (if kd = 165 then (spec_PduOk.j1 (k + 1) false kd id a b l) else (if a = 0 then (spec_PduOk.j1 (k + 1) (b != 0) kd id a b l) else (spec_PduOk.j1 (k + 1) true kd id a b l)))) =
    some (headOk kd a b && decide (l.length ≤ 10 ∧ -2147483648 ≤ id ∧ id ≤ 2147483647)) := by
  have hc := clip_range id
  have e : ∀ x : Bool, spec_PduOk.j1 (k + 1) x kd id a b l = some (!x && decide ((kd = 160 ∨ kd = 161 ∨ kd = 162 ∨ kd = 163 ∨ kd = 165) ∧ (0 ≤ a ∧ a ≤ 1000) ∧ (0 ≤ b ∧ b ≤ 1000) ∧ l.length ≤ 10 ∧ -2147483648 ≤ id ∧ id ≤ 2147483647)) := by
    intro x
    simp only [spec_PduOk.j1]
    cases x with
    | true => rfl
    | false =>
      rw [if_neg (by decide), spec_l4Kind_eq, Option.bind_some, Bool.not_false, Bool.true_and]
      by_cases h1 : kd = 160 ∨ kd = 161 ∨ kd = 162 ∨ kd = 163 ∨ kd = 165
      · rw [if_pos (decide_eq_true h1), spec_l1Clip_eq, Option.bind_some]
        by_cases h2 : clip id = id
        · rw [if_pos h2, spec_l1In_eq, Option.bind_some]
          by_cases h3 : 0 ≤ a ∧ a ≤ 1000
          · rw [if_pos (decide_eq_true h3), spec_l1In_eq, Option.bind_some]
            by_cases h4 : 0 ≤ b ∧ b ≤ 1000
            · rw [if_pos (decide_eq_true h4)]; congr 1; exact decide_eq_decide.2 (by omega)
            · rw [if_neg (by simpa using h4), decide_eq_false (fun z => h4 z.2.2.1)]
          · rw [if_neg (by simpa using h3), decide_eq_false (fun z => h3 z.2.1)]
        · rw [if_neg h2, decide_eq_false (fun z => h2 (clip_of z.2.2.2.2.1 z.2.2.2.2.2))]
      · rw [if_neg (by simpa using h1), decide_eq_false (fun z => h1 z.1)]
  simp only [e]
  by_cases h1 : kd = 162
  · rw [if_pos h1]; congr 1; exact bin_iff (by unfold headOk; simp only [Bool.and_eq_true, decide_eq_true_iff, Bool.not_false, Bool.true_and]; omega)
  · rw [if_neg h1]
    by_cases h2 : kd = 165
    · rw [if_pos h2]; congr 1; exact bin_iff (by unfold headOk; simp only [Bool.and_eq_true, decide_eq_true_iff, Bool.not_false, Bool.true_and]; omega)
    · rw [if_neg h2]
      by_cases h3 : a = 0
      · rw [if_pos h3]; congr 1; exact bin_iff (by unfold headOk; simp only [Bool.and_eq_true, decide_eq_true_iff, Bool.not_eq_true', bne_eq_false_iff_eq]; omega)
      · rw [if_neg h3]; congr 1; exact bin_iff (by unfold headOk; simp only [Bool.and_eq_true, decide_eq_true_iff, Bool.not_true, Bool.false_and, Bool.false_eq_true, false_iff]; omega)
theorem spec_PduOk_l0 (l : List S116) (M : Nat) (hM : Short M l) (kd id a b : Int) (d : Nat) : ∀ (k i : Nat), l.length - i = d → d + M + 3 < k → i ≤ l.length → spec_PduOk.l0 k (i : Int) kd id a b l = some ((l.drop i).all bindOk && (headOk kd a b && decide (l.length ≤ 10 ∧ -2147483648 ≤ id ∧ id ≤ 2147483647))) := by
  have hn := hM.2.1
  induction d with
  | zero =>
    intro k i hd hk hi
    obtain ⟨k, rfl⟩ : ∃ m, k = m + 2 := ⟨k - 2, by omega⟩
    rw [spec_PduOk.l0, if_neg (by omega), spec_PduOk_end kd id a b l hn, List.drop_of_length_le (by omega), List.all_nil, Bool.true_and]
  | succ d ih =>
    intro k i hd hk hi
    obtain ⟨k, rfl⟩ : ∃ m, k = m + 1 := ⟨k - 1, by omega⟩
    have hlt : i < l.length := by omega
    have hx := hM.2.2 _ (rdB_mem hlt)
    have hM1 := hM.1
    rw [spec_PduOk.l0, if_pos (by omega), if_pos (by omega), spec_OidOk_eq (by omega) (by omega), Option.bind_some, rdB_cons hlt, List.all_cons]
    unfold bindOk
    cases h1 : oidOk (rd_T116 l (i : Int)).f0 with
    | false => rw [if_neg (by decide)]; simp
    | true =>
      rw [if_pos rfl, spec_ValOk_eq _ _ _ (by omega) (by omega), Option.bind_some]
      cases h2 : valOk (rd_T116 l (i : Int)).f1.f0 (rd_T116 l (i : Int)).f1.f1 (rd_T116 l (i : Int)).f1.f2 (rd_T116 l (i : Int)).f1.f3 with
      | false => rw [if_neg (by decide)]; simp
      | true =>
        rw [if_pos rfl, w64 (by omega) (by omega), show (i : Int) + 1 = ((i + 1 : Nat) : Int) by omega, ih k (i + 1) (by omega) (by omega) (by omega)]
        rfl
theorem spec_PduOk_eq {l : List S116} {M : Nat} (hM : Short M l) (kd id a b : Int) {k : Nat} (hk : l.length + M + 6 ≤ k) : spec_PduOk.f k kd id a b l = some (pduOk kd id a b l) := by
  unfold spec_PduOk.f
  have := spec_PduOk_l0 l M hM kd id a b l.length k 0 (by omega) (by omega) (by omega)
  rw [List.drop_zero] at this
  rw [show (0 : Int) = ((0 : Nat) : Int) from rfl, this]
  unfold pduOk
  rw [← Bool.and_assoc, ← Bool.and_assoc, Bool.and_comm (l.all bindOk)]
theorem valOk_olen {k n : Int} {s : ByteArray} {o : List Int} (h : valOk k n s o = true) : o.length ≤ 10 := by
  unfold valOk at h
  split at h
  · have := of_decide_eq_true h; omega
  · split at h
    · have := of_decide_eq_true h; omega
    · split at h
      · rw [Bool.and_eq_true] at h; exact (oidOk_iff.1 h.1).2.2
      · split at h
        · have := of_decide_eq_true h; omega
        · simp at h
theorem bindOk_olen {x : S116} (h : bindOk x = true) : x.f0.length ≤ 10 ∧ x.f1.f3.length ≤ 10 := ⟨(oidOk_iff.1 (bindOk_iff.1 h).1).2.2, valOk_olen (bindOk_iff.1 h).2⟩
theorem take_succ_binds {l : List S116} {i : Nat} (h : i < l.length) : bindsBytes (l.take i) ++ tlv 48 (bindBytes (rd_T116 l (i : Int))) = bindsBytes (l.take (i + 1)) := by
  have : l.take (i + 1) = l.take i ++ [rd_T116 l (i : Int)] := by
    rw [List.take_add_one, List.getElem?_eq_getElem h]
    congr 2
    unfold rd_T116
    rw [Int.toNat_natCast, List.getD_eq_getElem?_getD, List.getElem?_eq_getElem h]; rfl
  rw [this, bindsBytes_app, bindsBytes_one]
theorem impl_tlv_yes {t : Int} {b : List Int} (ht : 0 ≤ t ∧ t ≤ 255) (hb : b.length ≤ 250) {k : Nat} (hk : 1 ≤ k) : impl_tlv.f k t b = some (tlv t b, true) := by rw [impl_tlv_eq t b (by omega) hk, if_pos ⟨ht.1, ht.2, hb⟩]
theorem impl_tlv_no {t : Int} {b : List Int} (hb : 250 < b.length) (hl : b.length ≤ 1000) {k : Nat} (hk : 1 ≤ k) : impl_tlv.f k t b = some ([], false) := by rw [impl_tlv_eq t b (by omega) hk, if_neg (by omega)]
theorem impl_PutPdu_l0 (kd id a b : Int) (l : List S116) (h : pduOk kd id a b l = true) (d : Nat) : ∀ (k i : Nat), l.length - i = d → d + 100 < k → i ≤ l.length → impl_PutPdu.l0 k (bindsBytes (l.take i)) l (l.length : Int) (i : Int) kd id a b l = some (putPdu kd id a b l) := by
  have h' := pduOk_iff.1 h
  have hb : ∀ j, (bindsBytes (l.take j)).length ≤ 660 := fun j => by
    have := (bindsBytes_len (l := l.take j) fun x hx => h'.2.1 x (List.mem_of_mem_take hx)).2
    have := List.length_take_le' j l
    omega
  induction d with
  | zero =>
    intro k i hd hk hi
    obtain ⟨k, rfl⟩ : ∃ m, k = m + 1 := ⟨k - 1, by omega⟩
    have hbi := hb i
    have l1 := putInt_tlv_len 2 id
    have l2 := putInt_tlv_len 2 a
    have l3 := putInt_tlv_len 2 b
    have q1 := putInt_len id
    have q2 := putInt_len a
    have q3 := putInt_len b
    have ht : l.take i = l := List.take_of_length_le (by omega)
    rw [ht] at hbi ⊢
    rw [impl_PutPdu.l0, if_neg (by omega)]
    unfold putPdu
    by_cases h2 : (bindsBytes l).length ≤ 250
    · have t4 := tlv_len 48 (bindsBytes l)
      have t5 : (tlv 48 (bindsBytes l)).length ≤ (bindsBytes l).length + 3 := by rw [t4]; split <;> omega
      rw [impl_tlv_yes (by omega) h2 (by omega), Option.bind_some, if_pos rfl, impl_addNum_eq _ _ (by simp) (by omega), Option.bind_some]
      have e1 : putTlv [] 2 (putInt id) = tlv 2 (putInt id) := by unfold putTlv; rw [if_pos (by omega)]; rfl
      have e2 : putTlv (tlv 2 (putInt id)) 2 (putInt a) = tlv 2 (putInt id) ++ tlv 2 (putInt a) := by unfold putTlv; rw [if_pos (by omega)]
      have e3 : putTlv (tlv 2 (putInt id) ++ tlv 2 (putInt a)) 2 (putInt b) = tlv 2 (putInt id) ++ tlv 2 (putInt a) ++ tlv 2 (putInt b) := by unfold putTlv; rw [if_pos (by omega)]
      rw [e1, impl_addNum_eq _ _ (by omega) (by omega), Option.bind_some, e2, impl_addNum_eq _ _ (by rw [List.length_append]; omega) (by omega), Option.bind_some, e3]
      have e4 : tlv 2 (putInt id) ++ tlv 2 (putInt a) ++ tlv 2 (putInt b) ++ tlv 48 (bindsBytes l) = pduBody id a b l := by unfold pduBody; simp only [List.append_assoc]
      have l4 : (pduBody id a b l).length ≤ 1000 := by rw [← e4]; simp only [List.length_append]; omega
      rw [if_pos (by simp only [List.length_append]; omega)]
      simp only [e4]
      by_cases h3 : (pduBody id a b l).length ≤ 250
      · rw [impl_tlv_yes (by omega) h3 (by omega), Option.bind_some, if_pos rfl, if_pos ⟨h, h2, h3⟩]
      · rw [impl_tlv_no (by omega) (by omega) (by omega), Option.bind_some, if_neg (by decide), if_neg (fun z => h3 z.2.2)]
    · rw [impl_tlv_no (by omega) (by omega) (by omega), Option.bind_some, if_neg (by decide), if_neg (fun z => h2 z.2.1)]
  | succ d ih =>
    intro k i hd hk hi
    obtain ⟨k, rfl⟩ : ∃ m, k = m + 1 := ⟨k - 1, by omega⟩
    have hlt : i < l.length := by omega
    have ok := h'.2.1 _ (rdB_mem hlt)
    have hol := bindOk_olen ok
    have hbl := bindBytes_len ok
    have hbi := hb i
    have ho := putOid_len (rd_T116 l (i : Int)).f0
    have t4 := tlv_len 48 (bindBytes (rd_T116 l (i : Int)))
    rw [if_neg (by omega)] at t4
    rw [impl_PutPdu.l0, if_pos (by omega), if_pos (by omega), if_pos (by omega), impl_PutOid_eq (by omega) (by omega), Option.bind_some, impl_PutTlv_eq _ (by simp) (by omega) (by omega), Option.bind_some, impl_PutVal_eq (by have := putTlv_len [] 6 (putOid (rd_T116 l (i : Int)).f0); simp only [List.length_nil] at this; omega) _ _ _ (by omega) (by omega), Option.bind_some, bindBytes_put ok, impl_tlv_yes (by omega) (by omega) (by omega), Option.bind_some, if_pos rfl, if_pos (by simp only; omega)]
    simp only
    rw [take_succ_binds hlt, w64 (by omega) (by omega), show (i : Int) + 1 = ((i + 1 : Nat) : Int) by omega]
    exact ih k (i + 1) (by omega) (by omega) (by omega)
theorem impl_PutPdu_eq {l : List S116} {M : Nat} (hM : Short M l) (kd id a b : Int) {k : Nat} (hk : l.length + M + 120 ≤ k) : impl_PutPdu.f k kd id a b l = some (putPdu kd id a b l) := by
  unfold impl_PutPdu.f
  rw [impl_PduOk_eq hM kd id a b (by omega), Option.bind_some]
  cases h : pduOk kd id a b l with
  | true =>
    rw [if_pos rfl]
    have := impl_PutPdu_l0 kd id a b l h l.length k 0 (by omega) (by omega) (by omega)
    simpa [bindsBytes] using this
  | false => rw [if_neg (by decide)]; unfold putPdu; rw [if_neg (fun z => by rw [h] at z; simp at z)]
theorem spec_l4Binds_l0 (l : List S116) (ho : ∀ x ∈ l, bindOk x = true) (h10 : l.length ≤ 10) (d : Nat) : ∀ (k i : Nat), l.length - i = d → d + 50 < k → i ≤ l.length → spec_l4Binds.l0 k l (bindsBytes (l.take i)) (i : Int) = some (bindsBytes l) := by
  have hb : ∀ j, (bindsBytes (l.take j)).length ≤ 660 := fun j => by
    have := (bindsBytes_len (l := l.take j) fun x hx => ho x (List.mem_of_mem_take hx)).2
    have := List.length_take_le' j l
    omega
  induction d with
  | zero =>
    intro k i hd hk hi
    obtain ⟨k, rfl⟩ : ∃ m, k = m + 1 := ⟨k - 1, by omega⟩
    rw [spec_l4Binds.l0, if_neg (by omega), List.take_of_length_le (by omega)]
  | succ d ih =>
    intro k i hd hk hi
    obtain ⟨k, rfl⟩ : ∃ m, k = m + 1 := ⟨k - 1, by omega⟩
    have hlt : i < l.length := by omega
    have ok := ho _ (rdB_mem hlt)
    have hol := bindOk_olen ok
    have hbl := bindBytes_len ok
    have hbi := hb i
    have hoi := putOid_len (rd_T116 l (i : Int)).f0
    have e : putTlv (bindsBytes (l.take i)) 48 (bindBytes (rd_T116 l (i : Int))) = bindsBytes (l.take (i + 1)) := by unfold putTlv; rw [if_pos (by omega), take_succ_binds hlt]
    rw [spec_l4Binds.l0, if_pos (by omega), if_pos (by omega), spec_PutOid_eq (by omega) (by omega), Option.bind_some, spec_PutTlv_eq _ (by simp) (by omega) (by omega), Option.bind_some, spec_PutVal_eq (by have := putTlv_len [] 6 (putOid (rd_T116 l (i : Int)).f0); simp only [List.length_nil] at this; omega) _ _ _ (by omega) (by omega), Option.bind_some, bindBytes_put ok, spec_PutTlv_eq _ (by omega) (by omega) (by omega), Option.bind_some, e, w64 (by omega) (by omega), show (i : Int) + 1 = ((i + 1 : Nat) : Int) by omega]
    exact ih k (i + 1) (by omega) (by omega) (by omega)
theorem spec_PutPdu_eq {l : List S116} {M : Nat} (hM : Short M l) (kd id a b : Int) {k : Nat} (hk : l.length + M + 70 ≤ k) : spec_PutPdu.f k kd id a b l = some (putPdu kd id a b l) := by
  unfold spec_PutPdu.f spec_l4Body.f spec_l4Binds.f
  rw [spec_PduOk_eq hM kd id a b (by omega), Option.bind_some]
  unfold putPdu
  cases h : pduOk kd id a b l with
  | true =>
    have h' := pduOk_iff.1 h
    have hb := (bindsBytes_len h'.2.1).2
    have l1 := putInt_tlv_len 2 id
    have l2 := putInt_tlv_len 2 a
    have l3 := putInt_tlv_len 2 b
    have q1 := putInt_len id
    have q2 := putInt_len a
    have q3 := putInt_len b
    have e0 := spec_l4Binds_l0 l h'.2.1 h'.2.2.1 l.length k 0 (by omega) (by omega) (by omega)
    rw [List.take_zero, show bindsBytes [] = [] from rfl] at e0
    rw [if_pos rfl, show (0 : Int) = ((0 : Nat) : Int) from rfl, e0, Option.bind_some]
    by_cases h2 : (bindsBytes l).length ≤ 250
    · have t5 : (tlv 48 (bindsBytes l)).length ≤ (bindsBytes l).length + 3 := by rw [tlv_len]; split <;> omega
      have e1 : putTlv [] 2 (putInt id) = tlv 2 (putInt id) := by unfold putTlv; rw [if_pos (by omega)]; rfl
      have e2 : putTlv (tlv 2 (putInt id)) 2 (putInt a) = tlv 2 (putInt id) ++ tlv 2 (putInt a) := by unfold putTlv; rw [if_pos (by omega)]
      have e3 : putTlv (tlv 2 (putInt id) ++ tlv 2 (putInt a)) 2 (putInt b) = tlv 2 (putInt id) ++ tlv 2 (putInt a) ++ tlv 2 (putInt b) := by unfold putTlv; rw [if_pos (by omega)]
      have e4 : putTlv (tlv 2 (putInt id) ++ tlv 2 (putInt a) ++ tlv 2 (putInt b)) 48 (bindsBytes l) = pduBody id a b l := by unfold putTlv pduBody; rw [if_pos (by omega)]; simp only [List.append_assoc]
      have l4 : (pduBody id a b l).length ≤ 1000 := by unfold pduBody; simp only [List.length_append]; omega
      rw [if_neg (by omega), spec_PutInt_eq _ (by omega), Option.bind_some, spec_PutTlv_eq _ (by simp) (by omega) (by omega), Option.bind_some, e1, spec_PutInt_eq _ (by omega), Option.bind_some, spec_PutTlv_eq _ (by omega) (by omega) (by omega), Option.bind_some, e2, spec_PutInt_eq _ (by omega), Option.bind_some, spec_PutTlv_eq _ (by rw [List.length_append]; omega) (by omega) (by omega), Option.bind_some, e3, spec_PutTlv_eq _ (by simp only [List.length_append]; omega) (by omega) (by omega), Option.bind_some, e4, Option.bind_some]
      by_cases h3 : (pduBody id a b l).length ≤ 250
      · rw [if_pos (decide_eq_true (by omega)), if_pos ⟨rfl, h2, h3⟩]
        dsimp only
        rw [spec_PutTlv_eq _ (by simp) (by omega) (by omega), Option.bind_some]
        unfold putTlv; rw [if_pos (by omega)]; rfl
      · rw [if_neg (by simp; omega), if_neg (fun z => h3 z.2.2)]
    · rw [if_pos (by omega), Option.bind_some, if_neg (by decide), if_neg (fun z => h2 z.2.1)]
  | false => rw [if_neg (by decide), if_neg (fun z => by simp at z)]
theorem spec_l4Draw_l0 {b : List Int} (hb : b.length ≤ 1099511627776) (kd id x y : Int) (d : Nat) : ∀ (k : Nat) (n i s : Int) (l : List S116), n ≤ d → 0 ≤ n → n ≤ 100 → d + 30 < k → l.length + n ≤ 100 → 0 ≤ i → i ≤ b.length → (∀ z ∈ l, z.f0.length ≤ 11 ∧ z.f1.f3.length ≤ 11) → ∃ l' i' s', spec_l4Draw.l0 k n b i s kd id x y l = some (kd, id, x, y, l', i', s') ∧ l'.length ≤ l.length + n ∧ (∀ z ∈ l', z.f0.length ≤ 11 ∧ z.f1.f3.length ≤ 11) ∧ 0 ≤ i' ∧ i' ≤ b.length := by
  induction d with
  | zero =>
    intro k n i s l h1 h2 h3 hk hl hi0 hi1 hz
    obtain ⟨k, rfl⟩ : ∃ m, k = m + 1 := ⟨k - 1, by omega⟩
    rw [spec_l4Draw.l0, if_neg (by omega)]
    exact ⟨l, i, s, rfl, by omega, hz, hi0, hi1⟩
  | succ d ih =>
    intro k n i s l h1 h2 h3 hk hl hi0 hi1 hz
    obtain ⟨k, rfl⟩ : ∃ m, k = m + 1 := ⟨k - 1, by omega⟩
    rw [spec_l4Draw.l0]
    by_cases hn : n > 0
    · obtain ⟨o, i1, s1, e1, o1, o2, o3⟩ := spec_l2Draw_eq hb hi0 hi1 s (k := k) (by omega)
      obtain ⟨t, m, z, w, i2, s2, e2, v1, v2, v3⟩ := spec_l3Draw_eq hb o3.1 o3.2 s1 (k := k) (by omega)
      simp only [if_pos hn, e1, e2, Option.bind_some]
      rw [if_pos (by omega), w64 (by omega) (by omega)]
      obtain ⟨l', i', s', e, g1, g2, g3, g4⟩ := ih k (n - 1) i2 s2 (l ++ [(⟨o, (⟨t, m, z, w⟩ : S76)⟩ : S116)]) (by omega) (by omega) (by omega) (by omega) (by rw [List.length_append, List.length_singleton]; omega) (by omega) (by omega) (by
        intro q hq
        rcases List.mem_append.1 hq with hq | hq
        · exact hz q hq
        · rw [List.mem_singleton.1 hq]; exact ⟨by simp only; omega, by simp only; omega⟩)
      rw [List.length_append, List.length_singleton] at g1
      exact ⟨l', i', s', e, by omega, g2, g3, g4⟩
    · rw [if_neg hn]
      exact ⟨l, i, s, rfl, by omega, hz, hi0, hi1⟩
theorem spec_l4Draw_eq {b : List Int} (hb : b.length ≤ 1099511627776) {i : Int} (h0 : 0 ≤ i) (h1 : i ≤ b.length) (s : Int) {k : Nat} (hk : 40 ≤ k) : ∃ kd id x y l i' s', spec_l4Draw.f k b i s = some (kd, id, x, y, l, i', s') ∧ l.length ≤ 3 ∧ (∀ z ∈ l, z.f0.length ≤ 11 ∧ z.f1.f3.length ≤ 11) ∧ 0 ≤ i' ∧ i' ≤ b.length := by
  obtain ⟨k, rfl⟩ : ∃ m, k = m + 2 := ⟨k - 2, by omega⟩
  have e1 : ∀ (i s kd id x y : Int), 0 ≤ i → i ≤ b.length → ∃ kd' id' x' y' l i' s', spec_l4Draw.j1 (k + 1) b i s kd id x y = some (kd', id', x', y', l, i', s') ∧ l.length ≤ 3 ∧ (∀ z ∈ l, z.f0.length ≤ 11 ∧ z.f1.f3.length ≤ 11) ∧ 0 ≤ i' ∧ i' ≤ b.length := by
    intro i s kd id x y h0 h1
    simp only [spec_l4Draw.j1]
    obtain ⟨v, i, s, e, v0, v1, i0, i1⟩ := spec_l1Below_eq hb h0 h1 s (n := 4) (by omega)
    rw [e, Option.bind_some]
    obtain ⟨l', i', s', e, g1, g2, g3, g4⟩ := spec_l4Draw_l0 hb kd id x y 3 k v i s [] (by omega) v0 (by omega) (by omega) (by rw [List.length_nil]; omega) i0 i1 (fun z hz => by simp at hz)
    rw [List.length_nil] at g1
    exact ⟨_, _, _, _, l', i', s', e, by omega, g2, g3, g4⟩
  have e0 : ∀ (t : Bool) (i s kd id x y : Int), 0 ≤ i → i ≤ b.length → ∃ kd' id' x' y' l i' s', spec_l4Draw.j0 (k + 2) t b i s kd id x y = some (kd', id', x', y', l, i', s') ∧ l.length ≤ 3 ∧ (∀ z ∈ l, z.f0.length ≤ 11 ∧ z.f1.f3.length ≤ 11) ∧ 0 ≤ i' ∧ i' ≤ b.length := by
    intro t i s kd id x y h0 h1
    simp only [spec_l4Draw.j0]
    cases t with
    | true =>
      rw [if_pos rfl]
      obtain ⟨v, i, s, e, v0, v1, i0, i1⟩ := spec_l1Below_eq hb h0 h1 s (n := 4) (by omega)
      rw [e, Option.bind_some]
      obtain ⟨v, i, s, e, v0, v1, i0, i1⟩ := spec_l1Below_eq hb i0 i1 s (n := 5) (by omega)
      rw [e, Option.bind_some]
      exact e1 _ _ _ _ _ _ i0 i1
    | false =>
      rw [if_neg (by decide)]
      exact e1 _ _ _ _ _ _ h0 h1
  unfold spec_l4Draw.f
  obtain ⟨j, i, s, e, hj, i0, i1⟩ := spec_l1Int_eq hb h0 h1 s (c := [160, 161, 162, 163, 165]) (by simp)
  rw [e, Option.bind_some]
  obtain ⟨v, i, s, e, i0, i1⟩ := spec_l1Num_eq hb i0 i1 s
  rw [e, Option.bind_some, spec_l1Clip_eq, Option.bind_some]
  dsimp only
  split
  · exact e0 _ _ _ _ _ _ _ i0 i1
  · exact e0 _ _ _ _ _ _ _ i0 i1
theorem spec_l4Any_l0 {b : List Int} (hb : b.length ≤ 1099511627776) (kd id x y : Int) (d : Nat) : ∀ (k : Nat) (i s : Int) (l : List S116), 11 - l.length = d → d + 30 < k → l.length ≤ 11 → 0 ≤ i → i ≤ b.length → (∀ z ∈ l, z.f0.length ≤ 11 ∧ z.f1.f3.length ≤ 11) → ∃ l' i' s', spec_l4Any.l0 k b i s kd id x y l = some (kd, id, x, y, l', i', s') ∧ l'.length ≤ 11 ∧ (∀ z ∈ l', z.f0.length ≤ 11 ∧ z.f1.f3.length ≤ 11) ∧ 0 ≤ i' ∧ i' ≤ b.length := by
  induction d with
  | zero =>
    intro k i s l h1 hk hl hi0 hi1 hz
    obtain ⟨k, rfl⟩ : ∃ m, k = m + 1 := ⟨k - 1, by omega⟩
    rw [spec_l4Any.l0]
    obtain ⟨v, i, s, e, v0, v1, i0, i1⟩ := spec_l1Below_eq hb hi0 hi1 s (n := 2) (by omega)
    rw [e, Option.bind_some, w64 (by omega) (by omega), if_neg (by simp only; omega)]
    exact ⟨l, _, _, rfl, hl, hz, i0, i1⟩
  | succ d ih =>
    intro k i s l h1 hk hl hi0 hi1 hz
    obtain ⟨k, rfl⟩ : ∃ m, k = m + 1 := ⟨k - 1, by omega⟩
    rw [spec_l4Any.l0]
    obtain ⟨v, i, s, e, v0, v1, i0, i1⟩ := spec_l1Below_eq hb hi0 hi1 s (n := 2) (by omega)
    rw [e, Option.bind_some, w64 (by omega) (by omega)]
    by_cases h : (l.length : Int) < 10 + v
    · obtain ⟨o, i1, s1, e1, o1, o2, o3⟩ := spec_l2Draw_eq hb i0 i1 s (k := k) (by omega)
      rw [if_pos h, e1, Option.bind_some, if_pos (by omega)]
      refine ih k _ _ _ (by rw [List.length_append, List.length_singleton]; omega) (by omega) (by rw [List.length_append, List.length_singleton]; omega) o3.1 o3.2 ?_
      intro q hq
      rcases List.mem_append.1 hq with hq | hq
      · exact hz q hq
      · rw [List.mem_singleton.1 hq]; exact ⟨by simp only; omega, by simp⟩
    · rw [if_neg h]
      exact ⟨l, _, _, rfl, hl, hz, i0, i1⟩
theorem spec_l4Any_eq {b : List Int} (hb : b.length ≤ 1099511627776) {i : Int} (h0 : 0 ≤ i) (h1 : i ≤ b.length) (s : Int) {k : Nat} (hk : 50 ≤ k) : ∃ kd id x y l i' s', spec_l4Any.f k b i s = some (kd, id, x, y, l, i', s') ∧ l.length ≤ 11 ∧ (∀ z ∈ l, z.f0.length ≤ 11 ∧ z.f1.f3.length ≤ 11) ∧ 0 ≤ i' ∧ i' ≤ b.length := by
  unfold spec_l4Any.f
  obtain ⟨kd, id, x, y, l, i, s, e, hl, hz, i0, i1⟩ := spec_l4Draw_eq hb h0 h1 s (k := k) (by omega)
  rw [e, Option.bind_some]
  dsimp only
  obtain ⟨v, i, s, e, v0, v1, i0, i1⟩ := spec_l1Below_eq hb i0 i1 s (n := 12) (by omega)
  rw [e, Option.bind_some]
  by_cases c0 : v = 0
  · rw [if_pos c0]
    obtain ⟨v, i, s, e, v0, v1, i0, i1⟩ := spec_l1Below_eq hb i0 i1 s (n := 256) (by omega)
    rw [e, Option.bind_some]
    exact ⟨_, _, _, _, _, _, _, rfl, by omega, hz, i0, i1⟩
  · rw [if_neg c0]
    by_cases c1 : v = 1
    · rw [if_pos c1]
      obtain ⟨j, i, s, e, hj, i0, i1⟩ := spec_l1Int_eq hb i0 i1 s (c := [(-1), 1, 1000, 1001]) (by simp)
      rw [e, Option.bind_some]
      exact ⟨_, _, _, _, _, _, _, rfl, by omega, hz, i0, i1⟩
    · rw [if_neg c1]
      by_cases c2 : v = 2
      · obtain ⟨o, i1, s1, e1, o1, o3⟩ := spec_l2Any_eq hb i0 i1 s (k := k) (by omega)
        obtain ⟨t, m, z, w, i2, s2, e2, v1, v2, v3⟩ := spec_l3Any_eq hb o3.1 o3.2 s1 (k := k) (by omega)
        rw [if_pos c2, e1, Option.bind_some]
        dsimp only
        rw [e2, Option.bind_some, if_pos (by omega)]
        refine ⟨_, _, _, _, _, _, _, rfl, by rw [List.length_append, List.length_singleton]; omega, ?_, v3.1, v3.2⟩
        intro q hq
        rcases List.mem_append.1 hq with hq | hq
        · exact hz q hq
        · rw [List.mem_singleton.1 hq]; exact ⟨by simp only; omega, by simp only; omega⟩
      · rw [if_neg c2]
        by_cases c3 : v = 3
        · rw [if_pos c3]
          obtain ⟨l', i', s', e, g1, g2, g3, g4⟩ := spec_l4Any_l0 hb kd id x y (11 - l.length) k i s l rfl (by omega) (by omega) i0 i1 hz
          exact ⟨_, _, _, _, _, _, _, e, g1, g2, g3, g4⟩
        · rw [if_neg c3]
          exact ⟨_, _, _, _, _, _, _, rfl, by omega, hz, i0, i1⟩
theorem spec_DrawPutMsg_eq {b : List Int} (hb : b.length ≤ 1099511627776) {k : Nat} (hk : b.length + 50 ≤ k) : ∃ w kd id x y l, spec_DrawPutMsg.f k b = some (w, kd, id, x, y, l) ∧ w.size ≤ 21 ∧ l.length ≤ 11 ∧ (∀ z ∈ l, z.f0.length ≤ 11 ∧ z.f1.f3.length ≤ 11) := by
  unfold spec_DrawPutMsg.f
  obtain ⟨s, e⟩ := spec_l1New_eq hb (k := k) (by omega)
  rw [e, Option.bind_some]
  dsimp only
  obtain ⟨w, i, s, e, hw, i0, i1⟩ := spec_l1Str_eq hb (i := 0) (by omega) (by omega) s (c := [(⟨#[121, 97, 114, 100]⟩ : ByteArray), (⟨#[]⟩ : ByteArray), (⟨#[111, 112, 101, 110]⟩ : ByteArray), (⟨#[116, 119, 101, 110, 116, 121, 45, 111, 110, 101, 45, 98, 121, 116, 101, 115, 45, 116, 101, 120, 116]⟩ : ByteArray)]) (by simp)
  rw [e, Option.bind_some]
  obtain ⟨kd, id, x, y, l, i, s, e, hl, hz, i0, i1⟩ := spec_l4Any_eq hb i0 i1 s (k := k) (by omega)
  rw [e, Option.bind_some]
  refine ⟨_, _, _, _, _, _, rfl, ?_, hl, hz⟩
  simp only [List.mem_cons, List.not_mem_nil, or_false] at hw
  rcases hw with rfl | rfl | rfl | rfl <;> (dsimp only; decide)
/-! ### a bind, read -/
noncomputable def getBind (l : List Int) : Option S116 :=
  if (xPart l 0 false 6).2.2 = false ∧ (getOid (xPart l 0 false 6).1).2 = true ∧ (getVal l (xPart l 0 false 6).2.1).2.2.2.2.2 = true ∧ (getVal l (xPart l 0 false 6).2.1).2.2.2.2.1 = (l.length : Int) then
    some ⟨(getOid (xPart l 0 false 6).1).1, ⟨(getVal l (xPart l 0 false 6).2.1).1, (getVal l (xPart l 0 false 6).2.1).2.1, (getVal l (xPart l 0 false 6).2.1).2.2.1, (getVal l (xPart l 0 false 6).2.1).2.2.2.1⟩⟩ else none
theorem getBind_put {x : S116} (h : bindOk x = true) : getBind (bindBytes x) = some x := by
  have ho := putOid_len x.f0
  have e1 := xPart_put [] (tlv x.f1.f0 (valBody x.f1.f0 x.f1.f1 x.f1.f2 x.f1.f3)) (t := 6) (b := putOid x.f0) (by omega) (by omega)
  have e2 := getVal_put (tlv 6 (putOid x.f0)) [] (bindOk_iff.1 h).2
  have e3 : putVal (tlv 6 (putOid x.f0)) x.f1.f0 x.f1.f1 x.f1.f2 x.f1.f3 = bindBytes x := by unfold putVal bindBytes; rw [if_pos (bindOk_iff.1 h).2]
  rw [e3, List.append_nil] at e2
  simp only [List.nil_append, List.length_nil, Int.natCast_zero] at e1
  unfold getBind
  have e4 : xPart (bindBytes x) 0 false 6 = (putOid x.f0, ((tlv 6 (putOid x.f0)).length : Int), false) := e1
  rw [e4]
  dsimp only
  rw [getOid_put (bindOk_iff.1 h).1, e2, if_pos ⟨rfl, rfl, rfl, rfl⟩]
theorem getBind_bytes {l : List Int} (hB : B l) {x : S116} (h : getBind l = some x) : bindOk x = true ∧ bindBytes x = l := by
  unfold getBind at h
  split at h
  · rename_i g
    obtain ⟨g1, g2, g3, g4⟩ := g
    obtain rfl := Option.some.inj h
    obtain ⟨_, _, p1, p2, p3, p4, _⟩ := xPart_bytes hB g1
    have o := getOid_bytes (b := (xPart l 0 false 6).1) (o := (getOid (xPart l 0 false 6).1).1) (by rw [← g2])
    have v := getVal_bytes hB (a := (xPart l 0 false 6).2.1) (k := (getVal l (xPart l 0 false 6).2.1).1) (n := (getVal l (xPart l 0 false 6).2.1).2.1) (s := (getVal l (xPart l 0 false 6).2.1).2.2.1) (o := (getVal l (xPart l 0 false 6).2.1).2.2.2.1) (e := (l.length : Int)) (by rw [← g3, ← g4])
    refine ⟨bindOk_iff.2 ⟨o.1, v.1⟩, ?_⟩
    have e := v.2.2.2.2.2
    rw [show ((l.length : Int)).toNat = l.length by omega, List.drop_length, List.append_nil] at e
    unfold putVal at e
    rw [if_pos v.1, List.nil_append] at e
    unfold bindBytes
    dsimp only
    rw [o.2, ← e, ← p1]; rfl
  · simp at h
def bind6 : Option S116 → List Int × Int × Int × ByteArray × List Int × Bool
  | some x => (x.f0, x.f1.f0, x.f1.f1, x.f1.f2, x.f1.f3, true)
  | none => ([], 0, 0, (⟨#[]⟩ : ByteArray), [], false)
theorem impl_bindOf_eq {l : List Int} (hB : B l) (hl : l.length ≤ 1000000000000) {k : Nat} (hk : 300 ≤ k) : impl_bindOf.f k l = some (bind6 (getBind l)) := by
  have r := xPart_range hB (a := 0) (by omega) (by omega) false 6
  unfold impl_bindOf.f getBind
  rw [impl_part_eq hB (by omega) (by omega), Option.bind_some, impl_GetOid_eq r.1 (by omega) (by omega), Option.bind_some, impl_GetVal_eq hB hl (by omega) hk, Option.bind_some]
  cases h1 : (xPart l 0 false 6).2.2 with
  | true => rw [if_pos rfl, if_neg (fun z => by simp at z)]; rfl
  | false =>
    rw [if_neg (by decide)]
    cases h2 : (getOid (xPart l 0 false 6).1).2 with
    | false => rw [if_neg (by decide), if_neg (fun z => by simp at z)]; rfl
    | true =>
      rw [if_pos rfl]
      cases h3 : (getVal l (xPart l 0 false 6).2.1).2.2.2.2.2 with
      | false => rw [if_neg (by decide), if_neg (fun z => by simp at z)]; rfl
      | true =>
        rw [if_pos rfl]
        by_cases h4 : (getVal l (xPart l 0 false 6).2.1).2.2.2.2.1 = (l.length : Int)
        · rw [if_pos h4, if_pos ⟨rfl, rfl, rfl, h4⟩]; rfl
        · rw [if_neg h4, if_neg (fun z => h4 z.2.2.2)]; rfl
/-! ### binds, read -/
noncomputable def readBinds (bs : List Int) : Nat → Int → Option (List S116)
  | 0, a => if a < (bs.length : Int) then none else some []
  | n + 1, a => if a < (bs.length : Int) then (if (xPart bs a false 48).2.2 = false then (match getBind (xPart bs a false 48).1 with
      | some x => (readBinds bs n (xPart bs a false 48).2.1).map (x :: ·)
      | none => none) else none) else some []
theorem readBinds_put (n : Nat) : ∀ (p : List Int) (l : List S116), l.length ≤ n → (∀ x ∈ l, bindOk x = true) → readBinds (p ++ bindsBytes l) n (p.length : Int) = some l := by
  induction n with
  | zero =>
    intro p l hl _
    rw [List.length_eq_zero_iff.1 (show l.length = 0 by omega), readBinds, if_neg (by simp [bindsBytes])]
  | succ n ih =>
    intro p l hl ho
    cases l with
    | nil => rw [readBinds, if_neg (by simp [bindsBytes])]
    | cons x l =>
      have hx := ho x List.mem_cons_self
      have hb := bindBytes_len hx
      rw [List.length_cons] at hl
      have e := xPart_put p (bindsBytes l) (t := 48) (b := bindBytes x) (by omega) (by omega)
      rw [← bindsBytes_cons] at e
      rw [readBinds, e]
      dsimp only
      have i := ih (p ++ tlv 48 (bindBytes x)) l (by omega) fun y hy => ho y (List.mem_cons_of_mem _ hy)
      rw [List.append_assoc, ← bindsBytes_cons] at i
      rw [if_pos (by rw [bindsBytes_cons]; simp only [List.length_append, tlv_len]; split <;> omega), if_pos rfl, getBind_put hx]
      dsimp only
      rw [i]; rfl
theorem readBinds_bytes {bs : List Int} (hB : B bs) (n : Nat) : ∀ {a : Int} {l : List S116}, 0 ≤ a → a ≤ bs.length → readBinds bs n a = some l → (∀ x ∈ l, bindOk x = true) ∧ l.length ≤ n ∧ bs.drop a.toNat = bindsBytes l := by
  induction n with
  | zero =>
    intro a l h0 h1 h
    rw [readBinds] at h
    split at h
    · simp at h
    · obtain rfl := Option.some.inj h
      exact ⟨fun x hx => by simp at hx, by simp, by rw [List.drop_of_length_le (by omega)]; rfl⟩
  | succ n ih =>
    intro a l h0 h1 h
    rw [readBinds] at h
    split at h
    · split at h
      · rename_i g
        obtain ⟨_, _, p1, p2, p3, p4, p5, _⟩ := xPart_bytes hB g
        cases hg : getBind (xPart bs a false 48).1 with
        | none => rw [hg] at h; simp at h
        | some x =>
          rw [hg] at h
          obtain ⟨r, hr, rfl⟩ := Option.map_eq_some_iff.1 h
          have i := ih (by omega) p4 hr
          have x1 := getBind_bytes p5 hg
          refine ⟨fun y hy => ?_, by rw [List.length_cons]; omega, by rw [p1, bindsBytes_cons, x1.2, i.2.2]⟩
          rcases List.mem_cons.1 hy with rfl | hy
          · exact x1.1
          · exact i.1 y hy
      · simp at h
    · obtain rfl := Option.some.inj h
      exact ⟨fun x hx => by simp at hx, by simp, by rw [List.drop_of_length_le (by omega)]; rfl⟩
/-! ### a request or an answer, read -/
noncomputable def readPdu (l : List Int) : Option (Int × Int × Int × Int × List S116) := match tlvAt l 0 with
  | none => none
  | some (kd, y, e) =>
    let p := xNum y 0 false 2
    let q := xNum y p.2.1 p.2.2 2
    let r := xNum y q.2.1 q.2.2 2
    let s := xPart y r.2.1 r.2.2 48
    if e = (l.length : Int) ∧ s.2.2 = false ∧ s.2.1 = (y.length : Int) then (readBinds s.1 10 0).map fun x => (kd, p.1, q.1, r.1, x) else none
theorem readPdu_put {kd id a b : Int} {l : List S116} (h : putPdu kd id a b l ≠ []) : readPdu (putPdu kd id a b l) = some (kd, id, a, b, l) := by
  obtain ⟨h1, h2, h3, h4⟩ := putPdu_some h
  have h5 := pduOk_iff.1 h1
  rw [h4]
  have e0 := tlvAt_put [] [] (t := kd) (b := pduBody id a b l) (by omega) h3
  simp only [List.nil_append, List.append_nil, List.length_nil, Int.natCast_zero, Int.zero_add] at e0
  have e1 := xNum_put [] (tlv 2 (putInt a) ++ (tlv 2 (putInt b) ++ tlv 48 (bindsBytes l))) (t := 2) id (by omega)
  have e2 := xNum_put (tlv 2 (putInt id)) (tlv 2 (putInt b) ++ tlv 48 (bindsBytes l)) (t := 2) a (by omega)
  have e3 := xNum_put (tlv 2 (putInt id) ++ tlv 2 (putInt a)) (tlv 48 (bindsBytes l)) (t := 2) b (by omega)
  have e4 := xPart_put (tlv 2 (putInt id) ++ tlv 2 (putInt a) ++ tlv 2 (putInt b)) [] (t := 48) (b := bindsBytes l) (by omega) h2
  have e5 := readBinds_put 10 [] l h5.2.2.1 h5.2.1
  rw [clip_of (by omega) (by omega)] at e1 e2 e3
  simp only [List.nil_append, List.append_nil, List.length_nil, Int.natCast_zero, List.append_assoc] at e1 e2 e3 e4 e5
  have b0 : pduBody id a b l = tlv 2 (putInt id) ++ (tlv 2 (putInt a) ++ (tlv 2 (putInt b) ++ tlv 48 (bindsBytes l))) := rfl
  unfold readPdu
  rw [e0]
  dsimp only
  rw [b0, e1]
  dsimp only
  rw [e2]
  dsimp only
  rw [e3]
  dsimp only
  rw [e4]
  dsimp only
  rw [if_pos ⟨rfl, rfl, rfl⟩, e5]; rfl
theorem readPdu_bytes {y : List Int} (hB : B y) {kd id a b : Int} {l : List S116} (h : readPdu y = some (kd, id, a, b, l)) : y = tlv kd (pduBody id a b l) ∧ (bindsBytes l).length ≤ 250 ∧ (pduBody id a b l).length ≤ 250 ∧ (∀ x ∈ l, bindOk x = true) ∧ l.length ≤ 10 ∧ -2147483648 ≤ id ∧ id ≤ 2147483647 := by
  unfold readPdu at h
  cases ht : tlvAt y 0 with
  | none => rw [ht] at h; simp at h
  | some x =>
    obtain ⟨t, z, e⟩ := x
    rw [ht] at h
    dsimp only at h
    have hr := tlvAt_range hB ht
    obtain ⟨y1, y2, y3, y4, y5⟩ := tlvAt_bytes hB ht
    split at h
    · rename_i g
      obtain ⟨g1, g2, g3⟩ := g
      obtain ⟨x, hx, hh⟩ := Option.map_eq_some_iff.1 h
      simp only [Prod.mk.injEq] at hh
      obtain ⟨rfl, rfl, rfl, rfl, rfl⟩ := hh
      obtain ⟨s1, _, s2, s3, s4, s5, s6, s7⟩ := xPart_bytes hr.2.2.2.1 g2
      obtain ⟨r1, r2, r3, r4, r5, r6, r7, _⟩ := xNum_bytes hr.2.2.2.1 s1
      obtain ⟨q1, q2, q3, q4, q5, q6, q7, _⟩ := xNum_bytes hr.2.2.2.1 r1
      obtain ⟨p1, p2, p3, p4, p5, p6, p7, _⟩ := xNum_bytes hr.2.2.2.1 q1
      have i := readBinds_bytes s6 10 (by omega) (by omega) hx
      have hz : z = pduBody (xNum z 0 false 2).1 (xNum z (xNum z 0 false 2).2.1 (xNum z 0 false 2).2.2 2).1 (xNum z (xNum z (xNum z 0 false 2).2.1 (xNum z 0 false 2).2.2 2).2.1 (xNum z (xNum z 0 false 2).2.1 (xNum z 0 false 2).2.2 2).2.2 2).1 x := by
        unfold pduBody
        have i2 := i.2.2
        rw [show (0 : Int).toNat = 0 from rfl, List.drop_zero] at i2
        rw [g3, show ((z.length : Int)).toNat = z.length by omega, List.drop_length, List.append_nil] at s2
        rw [← i2, ← s2, ← r2, ← q2, ← p2]; rfl
      rw [← hz]
      rw [g1, show ((y.length : Int)).toNat = y.length by omega, List.drop_length, List.append_nil] at y1
      refine ⟨y1, ?_, y4, i.1, i.2.1, p6, p7⟩
      have i2 := i.2.2
      rw [show (0 : Int).toNat = 0 from rfl, List.drop_zero] at i2
      rw [← i2]; exact s7
    · simp at h
noncomputable def getPdu (y : List Int) : Int × Int × Int × Int × List S116 × Bool := match readPdu y with
  | none => (0, 0, 0, 0, [], false)
  | some (kd, id, a, b, l) => if pduOk kd id a b l = true then (kd, id, a, b, l, true) else (0, 0, 0, 0, [], false)
theorem getPdu_put {kd id a b : Int} {l : List S116} (h : putPdu kd id a b l ≠ []) : getPdu (putPdu kd id a b l) = (kd, id, a, b, l, true) := by
  unfold getPdu
  rw [readPdu_put h]
  dsimp only
  rw [if_pos (putPdu_some h).1]
theorem getPdu_bytes {y : List Int} (hB : B y) {kd id a b : Int} {l : List S116} (h : getPdu y = (kd, id, a, b, l, true)) : pduOk kd id a b l = true ∧ putPdu kd id a b l = y ∧ y ≠ [] := by
  unfold getPdu at h
  cases hr : readPdu y with
  | none => rw [hr] at h; simp at h
  | some p =>
    obtain ⟨kd', id', a', b', l'⟩ := p
    rw [hr] at h
    dsimp only at h
    split at h
    · rename_i g
      simp only [Prod.mk.injEq, and_true] at h
      obtain ⟨rfl, rfl, rfl, rfl, rfl⟩ := h
      have i := readPdu_bytes hB hr
      have e : putPdu kd' id' a' b' l' = y := by unfold putPdu; rw [if_pos ⟨g, i.2.1, i.2.2.1⟩, ← i.1]
      exact ⟨g, e, by rw [i.1]; simp [tlv]⟩
    · simp at h
def fin6 (y : List Int) (kd id a b : Int) (l : List S116) : Int × Int × Int × Int × List S116 × Bool :=
  if putPdu kd id a b l ≠ [] ∧ putPdu kd id a b l = y then (kd, id, a, b, l, true) else (0, 0, 0, 0, [], false)
theorem impl_GetPdu_l0 {y bs : List Int} (hy : B y) (hB : B bs) (hl : bs.length ≤ 250) (kd id a b : Int) (n : Nat) : ∀ (acc : List S116) (p : Int) (k : Nat), 10 - acc.length = n → acc.length ≤ 10 → (∀ x ∈ acc, bindOk x = true) → 0 ≤ p → p ≤ bs.length → n + 400 ≤ k → impl_GetPdu.l0 k y kd id a b acc bs p false = some (match readBinds bs n p with | some r => fin6 y kd id a b (acc ++ r) | none => (0, 0, 0, 0, [], false)) := by
  have fin : ∀ (acc : List S116) (k : Nat), acc.length ≤ 10 → (∀ x ∈ acc, bindOk x = true) → 200 ≤ k → ((impl_PutPdu.f k kd id a b acc).bind fun t835 => (if (t835.length : Int) = 0 then (some (0, 0, 0, 0, ([] : List (S116)), false)) else (if (strOfNums t835).toList = (strOfNums y).toList then (some (kd, id, a, b, acc, true)) else (some (0, 0, 0, 0, ([] : List (S116)), false))))) = some (fin6 y kd id a b acc) := by
    intro acc k h1 h2 hk
    rw [impl_PutPdu_eq (M := 10) ⟨by omega, by omega, fun x hx => bindOk_olen (h2 x hx)⟩ _ _ _ _ (by omega), Option.bind_some]
    unfold fin6
    by_cases e : putPdu kd id a b acc = []
    · rw [if_pos (by rw [e]; rfl), if_neg (fun z => z.1 e)]
    · rw [if_neg (by have := List.length_pos_iff.2 e; omega)]
      by_cases e2 : putPdu kd id a b acc = y
      · rw [if_pos ((str_inj (putPdu_B _ _ _ _ _) hy).2 e2), if_pos ⟨e, e2⟩]
      · rw [if_neg (fun z => e2 ((str_inj (putPdu_B _ _ _ _ _) hy).1 z)), if_neg (fun z => e2 z.2)]
  induction n with
  | zero =>
    intro acc p k hn h10 ho p0 p1 hk
    obtain ⟨k, rfl⟩ : ∃ m, k = m + 1 := ⟨k - 1, by omega⟩
    have r := xPart_range hB p0 p1 false 48
    rw [impl_GetPdu.l0, readBinds]
    by_cases h : p < (bs.length : Int)
    · rw [if_pos h, if_pos h, impl_part_eq hB (by omega) (by omega), Option.bind_some, impl_bindOf_eq r.1 (by omega) (by omega), Option.bind_some]
      cases getBind (xPart bs p false 48).1 with
      | none => rw [if_neg (by simp [bind6])]
      | some x => rw [if_pos (show (bind6 (some x)).2.2.2.2.2 = true from rfl), if_pos (by omega)]
    · rw [if_neg h, if_neg h, fin acc k h10 ho (by omega)]
      dsimp only
      rw [List.append_nil]
  | succ n ih =>
    intro acc p k hn h10 ho p0 p1 hk
    obtain ⟨k, rfl⟩ : ∃ m, k = m + 1 := ⟨k - 1, by omega⟩
    have r := xPart_range hB p0 p1 false 48
    rw [impl_GetPdu.l0, readBinds]
    by_cases h : p < (bs.length : Int)
    · rw [if_pos h, if_pos h, impl_part_eq hB (by omega) (by omega), Option.bind_some, impl_bindOf_eq r.1 (by omega) (by omega), Option.bind_some]
      cases hb : (xPart bs p false 48).2.2 with
      | true =>
        have e : (xPart bs p false 48).1 = [] := by
          unfold xPart at hb ⊢
          rw [if_neg (by decide)] at hb ⊢
          cases ht : tlvAt bs p with
          | none => rfl
          | some x =>
            rw [ht] at hb
            dsimp only at hb ⊢
            split
            · rename_i g; rw [if_pos g] at hb; simp at hb
            · rfl
        have e2 : getBind [] = none := by unfold getBind; rw [if_neg (fun z => by have := z.1; simp [xPart, tlvAt] at this)]
        rw [e, e2, if_neg (by simp [bind6]), if_neg (by decide)]
      | false =>
        rw [if_pos rfl]
        cases hg : getBind (xPart bs p false 48).1 with
        | none => rw [if_neg (by simp [bind6])]
        | some x =>
          have x1 := getBind_bytes r.1 hg
          rw [if_pos (show (bind6 (some x)).2.2.2.2.2 = true from rfl), if_neg (by omega), if_pos (by omega)]
          have i := ih (acc ++ [x]) (xPart bs p false 48).2.1 k (by rw [List.length_append, List.length_singleton]; omega) (by rw [List.length_append, List.length_singleton]; omega) (fun y hy => (List.mem_append.1 hy).elim (ho y) fun hy => by rw [List.mem_singleton.1 hy]; exact x1.1) r.2.2.1 r.2.2.2 (by omega)
          refine Eq.trans i ?_
          cases readBinds bs n (xPart bs p false 48).2.1 with
          | none => rfl
          | some r => simp
    · rw [if_neg h, if_neg h, fin acc k h10 ho (by omega)]
      dsimp only
      rw [List.append_nil]
theorem impl_GetPdu_read {y : List Int} (hB : B y) (hl : y.length ≤ 1000000000000) {k : Nat} (hk : 500 ≤ k) : impl_GetPdu.f k y = some (match readPdu y with | none => (0, 0, 0, 0, [], false) | some (kd, id, a, b, l) => fin6 y kd id a b l) := by
  obtain ⟨k, rfl⟩ : ∃ m, k = m + 1 := ⟨k - 1, by omega⟩
  unfold impl_GetPdu.f readPdu
  rw [impl_GetTlv_eq hB (by omega) (by omega), Option.bind_some]
  unfold tlv4
  cases ht : tlvAt y 0 with
  | none => dsimp only; rw [if_neg (by decide), impl_GetPdu.j0, if_pos rfl]
  | some x =>
    obtain ⟨t, z, e⟩ := x
    have hr := tlvAt_range hB ht
    dsimp only
    rw [if_pos rfl, impl_GetPdu.j0]
    by_cases he : e = (y.length : Int)
    · rw [if_neg (by simp [he])]
      have r1 := xNum_range hr.2.2.2.1 (a := 0) (by omega) (by omega) false 2
      have r2 := xNum_range hr.2.2.2.1 r1.1 r1.2 (xNum z 0 false 2).2.2 2
      have r3 := xNum_range hr.2.2.2.1 r2.1 r2.2 (xNum z (xNum z 0 false 2).2.1 (xNum z 0 false 2).2.2 2).2.2 2
      rw [impl_num_eq hr.2.2.2.1 (by omega) (by omega) (by omega) _ _ (by omega), Option.bind_some, impl_num_eq hr.2.2.2.1 (by omega) r1.1 r1.2 _ _ (by omega), Option.bind_some, impl_num_eq hr.2.2.2.1 (by omega) r2.1 r2.2 _ _ (by omega), Option.bind_some, impl_part_eq hr.2.2.2.1 (by omega) (by omega), Option.bind_some]
      generalize xNum z 0 false 2 = p1 at *
      generalize xNum z p1.2.1 p1.2.2 2 = p2 at *
      generalize xNum z p2.2.1 p2.2.2 2 = p3 at *
      have r4 := xPart_range hr.2.2.2.1 r3.1 r3.2 p3.2.2 48
      have hb4 : (xPart z p3.2.1 p3.2.2 48).1.length ≤ 250 := by omega
      generalize xPart z p3.2.1 p3.2.2 48 = p4 at *
      unfold impl_parts_done.f
      cases hd : p4.2.2 with
      | true => rw [if_pos rfl, Option.bind_some, if_neg Bool.false_ne_true, if_neg (fun w => by simp at w)]
      | false =>
        rw [if_neg (by decide), Option.bind_some]
        by_cases hq : p4.2.1 = (z.length : Int)
        · rw [if_pos (by simp [hq]), if_pos ⟨he, rfl, hq⟩, impl_GetPdu_l0 hB r4.1 hb4 t p1.1 p2.1 p3.1 10 [] 0 k rfl (by simp) (fun x hx => by simp at hx) (by omega) (by omega) (by omega)]
          cases hrb : readBinds p4.1 10 0 with
          | none => rfl
          | some l =>
            simp only [Option.map_some, List.nil_append]
        · rw [if_neg (by simp [hq]), if_neg (fun w => hq w.2.2)]
    · rw [if_pos (by simp [he]), if_neg (fun w => he w.1)]
theorem impl_GetPdu_eq {y : List Int} (hB : B y) (hl : y.length ≤ 1000000000000) {k : Nat} (hk : 500 ≤ k) : impl_GetPdu.f k y = some (getPdu y) := by
  rw [impl_GetPdu_read hB hl hk]
  unfold getPdu
  cases h : readPdu y with
  | none => rfl
  | some p =>
    obtain ⟨kd, id, a, b, l⟩ := p
    have i := readPdu_bytes hB h
    dsimp only
    unfold fin6
    by_cases g : pduOk kd id a b l = true
    · have e : putPdu kd id a b l = y := by unfold putPdu; rw [if_pos ⟨g, i.2.1, i.2.2.1⟩, ← i.1]
      rw [if_pos g, if_pos ⟨by rw [e, i.1]; simp [tlv], e⟩]
    · rw [if_neg g, if_neg (fun z => g (putPdu_some z.1).1)]
/-! ### messages -/
def msgBody (w : ByteArray) (x : List Int) : List Int := tlv 2 (putInt 1) ++ (tlv 4 (bytesOf w) ++ x)
def putMsg (w : ByteArray) (x : List Int) : List Int := if x ≠ [] ∧ w.size ≤ 20 ∧ (msgBody w x).length ≤ 250 then tlv 48 (msgBody w x) else []
theorem msgBody_len {w : ByteArray} (h : w.size ≤ 20) (x : List Int) : (msgBody w x).length ≤ x.length + 40 := by
  have := bytesOf_len w
  have := putInt_tlv_len 2 1
  unfold msgBody
  rw [List.length_append, List.length_append, tlv_len 4, if_neg (by omega)]
  omega
theorem putMsg_len (w : ByteArray) (x : List Int) : (putMsg w x).length ≤ 253 := by
  unfold putMsg
  split
  · rw [tlv_len]; split <;> omega
  · simp
theorem putMsg_some {w : ByteArray} {x : List Int} (h : putMsg w x ≠ []) : x ≠ [] ∧ w.size ≤ 20 ∧ (msgBody w x).length ≤ 250 ∧ putMsg w x = tlv 48 (msgBody w x) := by
  unfold putMsg at h ⊢
  split at h
  · rename_i g; rw [if_pos g]; exact ⟨g.1, g.2.1, g.2.2, rfl⟩
  · exact absurd rfl h
theorem msgBody_B {w : ByteArray} {x : List Int} (hw : w.size ≤ 20) (hx : B x) : B (msgBody w x) := by
  have := bytesOf_len w
  have := putInt_len 1
  unfold msgBody
  exact (tlv_B (putInt_B _) (by omega)).app ((tlv_B (bytesOf_B _) (by omega)).app hx)
theorem putMsg_B (w : ByteArray) {x : List Int} (hx : B x) : B (putMsg w x) := by
  unfold putMsg
  split
  · rename_i g; exact tlv_B (msgBody_B g.2.1 hx) (by omega)
  · exact B.nil
theorem impl_PutMsg_eq (w : ByteArray) {l : List S116} {M : Nat} (hM : Short M l) (kd id a b : Int) {k : Nat} (hk : l.length + M + 120 ≤ k) : impl_PutMsg.f k w kd id a b l = some (putMsg w (putPdu kd id a b l)) := by
  obtain ⟨k, rfl⟩ : ∃ m, k = m + 1 := ⟨k - 1, by omega⟩
  unfold impl_PutMsg.f
  rw [impl_PutPdu_eq hM kd id a b hk, Option.bind_some]
  have hx := putPdu_len kd id a b l
  generalize putPdu kd id a b l = x at *
  have e : (if (x.length : Int) = 0 then impl_PutMsg.j0 (k + 1) w x true else impl_PutMsg.j0 (k + 1) w x (decide ((w.size : Int) > 20))) = impl_PutMsg.j0 (k + 1) w x (decide (x = [] ∨ 20 < w.size)) := by
    by_cases h : x = []
    · rw [if_pos (by rw [h]; rfl), decide_eq_true (.inl h)]
    · rw [if_neg (by have := List.length_pos_iff.2 h; omega)]
      congr 1; exact decide_eq_decide.2 ⟨fun z => .inr (by omega), fun z => z.elim (fun z => absurd z h) (by omega)⟩
  rw [e, impl_PutMsg.j0]
  unfold putMsg
  by_cases h : x = [] ∨ 20 < w.size
  · rw [if_pos (decide_eq_true h), if_neg (fun z => h.elim z.1 (by omega))]
  · have hs := bytesOf_len w
    have l1 := putInt_tlv_len 2 1
    have l2 := putInt_len 1
    have e1 : putTlv [] 2 (putInt 1) = tlv 2 (putInt 1) := by unfold putTlv; rw [if_pos (by omega)]; rfl
    have e2 : putTlv (tlv 2 (putInt 1)) 4 (bytesOf w) ++ x = msgBody w x := by unfold putTlv msgBody; rw [if_pos (by omega), List.append_assoc]
    have e3 := putTlv_len (tlv 2 (putInt 1)) 4 (bytesOf w)
    have e4 := msgBody_len (w := w) (by omega) x
    rw [if_neg (by simpa using h), impl_addNum_eq _ _ (by simp) (by omega), Option.bind_some, e1, if_pos (by omega), impl_PutTlv_eq _ (by omega) (by omega) (by omega), Option.bind_some, if_pos (by omega), e2]
    by_cases h3 : (msgBody w x).length ≤ 250
    · rw [impl_tlv_yes (by omega) h3 (by omega), Option.bind_some, if_pos rfl, if_pos ⟨fun z => h (.inl z), by omega, h3⟩]
    · rw [impl_tlv_no (by omega) (by omega) (by omega), Option.bind_some, if_neg Bool.false_ne_true, if_neg (fun z => h3 z.2.2)]
theorem spec_PutMsg_eq (w : ByteArray) {l : List S116} {M : Nat} (hM : Short M l) (kd id a b : Int) {k : Nat} (hk : l.length + M + 80 ≤ k) : spec_PutMsg.f k w kd id a b l = some (putMsg w (putPdu kd id a b l)) := by
  obtain ⟨k, rfl⟩ : ∃ m, k = m + 1 := ⟨k - 1, by omega⟩
  unfold spec_PutMsg.f
  rw [spec_PutPdu_eq hM kd id a b (by omega), Option.bind_some]
  have hx := putPdu_len kd id a b l
  generalize putPdu kd id a b l = x at *
  have e : (if (x.length : Int) = 0 then spec_PutMsg.j0 (k + 1) w x true else spec_PutMsg.j0 (k + 1) w x (decide ((w.size : Int) > 20))) = spec_PutMsg.j0 (k + 1) w x (decide (x = [] ∨ 20 < w.size)) := by
    by_cases h : x = []
    · rw [if_pos (by rw [h]; rfl), decide_eq_true (.inl h)]
    · rw [if_neg (by have := List.length_pos_iff.2 h; omega)]
      congr 1; exact decide_eq_decide.2 ⟨fun z => .inr (by omega), fun z => z.elim (fun z => absurd z h) (by omega)⟩
  rw [e, spec_PutMsg.j0]
  unfold putMsg
  by_cases h : x = [] ∨ 20 < w.size
  · rw [if_pos (decide_eq_true h), if_neg (fun z => h.elim z.1 (by omega))]
  · have hs := bytesOf_len w
    have l1 := putInt_tlv_len 2 1
    have l2 := putInt_len 1
    have e1 : putTlv [] 2 (putInt 1) = tlv 2 (putInt 1) := by unfold putTlv; rw [if_pos (by omega)]; rfl
    have e2 : putTlv (tlv 2 (putInt 1)) 4 (bytesOf w) ++ x = msgBody w x := by unfold putTlv msgBody; rw [if_pos (by omega), List.append_assoc]
    have e3 := putTlv_len (tlv 2 (putInt 1)) 4 (bytesOf w)
    have e4 := msgBody_len (w := w) (by omega) x
    rw [if_neg (by simpa using h), spec_PutInt_eq _ (by omega), Option.bind_some, spec_PutTlv_eq _ (by simp) (by omega) (by omega), Option.bind_some, e1, if_pos (by omega), spec_PutTlv_eq _ (by omega) (by omega) (by omega), Option.bind_some, if_pos (by omega), Option.bind_some, e2]
    by_cases h3 : (msgBody w x).length ≤ 250
    · rw [if_neg (by omega), spec_PutTlv_eq _ (by simp) (by omega) (by omega), Option.bind_some, if_pos ⟨fun z => h (.inl z), by omega, h3⟩]
      unfold putTlv; rw [if_pos (by omega)]; rfl
    · rw [if_pos (by omega), if_neg (fun z => h3 z.2.2)]
abbrev Got := Int × Int × Int × Int × List S116 × Int
def noMsg (c : Int) : Got := (0, 0, 0, 0, [], c)
def gotPdu (p : Int × Int × Int × Int × List S116 × Bool) : Got := if p.2.2.2.2.2 = true then (p.1, p.2.1, p.2.2.1, p.2.2.2.1, p.2.2.2.2.1, 0) else noMsg 1
noncomputable def getMsg (w : ByteArray) (y : List Int) : Got := match tlvAt y 0 with
  | none => noMsg 1
  | some (t, z, e) =>
    let p := xNum z 0 false 2
    let q := xPart z p.2.1 p.2.2 4
    if t = 48 ∧ e = (y.length : Int) ∧ q.2.2 = false then (if p.1 = 1 then (if strOfNums q.1 = w then gotPdu (getPdu (z.drop q.2.1.toNat)) else noMsg 3) else noMsg 2) else noMsg 1
theorem impl_GetMsg_eq (w : ByteArray) {y : List Int} (hB : B y) (hl : y.length ≤ 1000000000000) {k : Nat} (hk : 510 ≤ k) : impl_GetMsg.f k w y = some (getMsg w y) := by
  obtain ⟨k, rfl⟩ : ∃ m, k = m + 1 := ⟨k - 1, by omega⟩
  unfold impl_GetMsg.f getMsg
  rw [impl_GetTlv_eq hB (by omega) (by omega), Option.bind_some]
  unfold tlv4
  cases ht : tlvAt y 0 with
  | none => dsimp only; rw [if_neg (by decide), impl_GetMsg.j0, if_pos rfl]; rfl
  | some x =>
    obtain ⟨t, z, e⟩ := x
    have hr := tlvAt_range hB ht
    dsimp only
    rw [if_pos rfl]
    by_cases h48 : t = 48
    · rw [if_pos h48, impl_GetMsg.j0]
      by_cases he : e = (y.length : Int)
      · rw [if_neg (by simp [he])]
        have r1 := xNum_range hr.2.2.2.1 (a := 0) (by omega) (by omega) false 2
        rw [impl_num_eq hr.2.2.2.1 (by omega) (by omega) (by omega) _ _ (by omega), Option.bind_some, impl_part_eq hr.2.2.2.1 (by omega) (by omega), Option.bind_some]
        generalize xNum z 0 false 2 = p1 at *
        have r4 := xPart_range hr.2.2.2.1 r1.1 r1.2 p1.2.2 4
        generalize xPart z p1.2.1 p1.2.2 4 = p4 at *
        cases hd : p4.2.2 with
        | true => rw [if_pos rfl, if_neg (fun w => by simp at w)]; rfl
        | false =>
          rw [if_neg (by decide), if_pos (show t = 48 ∧ e = (y.length : Int) ∧ false = false from ⟨h48, he, rfl⟩)]
          by_cases h1 : p1.1 = 1
          · rw [if_pos h1, if_pos h1]
            by_cases h2 : strOfNums p4.1 = w
            · rw [if_pos (str_eq.2 h2), if_pos h2, if_pos r4.2.2.1, if_pos r4.2.2.2, impl_GetPdu_eq (hr.2.2.2.1.drop _) (by rw [List.length_drop]; omega) (by omega), Option.bind_some]
              unfold gotPdu
              split <;> rfl
            · rw [if_neg (fun z => h2 (str_eq.1 z)), if_neg h2]; rfl
          · rw [if_neg h1, if_neg h1]; rfl
      · rw [if_pos (by simp [he]), if_neg (fun w => he w.2.1)]; rfl
    · rw [if_neg h48, impl_GetMsg.j0, if_pos rfl, if_neg (fun w => h48 w.1)]; rfl
theorem getMsg_put {w v : ByteArray} {kd id a b : Int} {l : List S116} (h : putMsg w (putPdu kd id a b l) ≠ []) : getMsg v (putMsg w (putPdu kd id a b l)) = if w = v then (kd, id, a, b, l, 0) else noMsg 3 := by
  obtain ⟨h1, h2, h3, h4⟩ := putMsg_some h
  have hs := bytesOf_len w
  rw [h4]
  have e0 := tlvAt_put [] [] (t := 48) (b := msgBody w (putPdu kd id a b l)) (by omega) h3
  simp only [List.nil_append, List.append_nil, List.length_nil, Int.natCast_zero, Int.zero_add] at e0
  have e1 := xNum_put [] (tlv 4 (bytesOf w) ++ putPdu kd id a b l) (t := 2) 1 (by omega)
  have e2 := xPart_put (tlv 2 (putInt 1)) (putPdu kd id a b l) (t := 4) (b := bytesOf w) (by omega) (by omega)
  rw [clip_of (by omega) (by omega)] at e1
  simp only [List.nil_append, List.length_nil, Int.natCast_zero] at e1
  have b0 : msgBody w (putPdu kd id a b l) = tlv 2 (putInt 1) ++ (tlv 4 (bytesOf w) ++ putPdu kd id a b l) := rfl
  have b1 : (msgBody w (putPdu kd id a b l)).drop (((tlv 2 (putInt 1) ++ tlv 4 (bytesOf w)).length : Int)).toNat = putPdu kd id a b l := by
    rw [show (((tlv 2 (putInt 1) ++ tlv 4 (bytesOf w)).length : Int)).toNat = (tlv 2 (putInt 1) ++ tlv 4 (bytesOf w)).length by omega, b0, ← List.append_assoc, List.drop_left]
  rw [← b0] at e1 e2
  unfold getMsg
  rw [e0]
  dsimp only
  rw [e1]
  dsimp only
  rw [e2]
  dsimp only
  rw [if_pos ⟨rfl, rfl, rfl⟩, if_pos rfl, strOfNums_bytesOf, b1, getPdu_put h1]
  rfl
theorem getMsg_cut (w : ByteArray) {y : List Int} (hB : B y) {z : List Int} (h : y = tlv 48 z) (hz : z.length ≤ 250) {j : Nat} (hj : j < y.length) : (getMsg w (y.take j)).2.2.2.2.2 = 1 := by
  unfold getMsg
  cases ht : tlvAt (y.take j) 0 with
  | none => rfl
  | some x =>
    obtain ⟨t, x, e⟩ := x
    dsimp only
    rw [if_neg]
    · rfl
    · intro g
      have h1 := tlvAt_bytes (hB.take j) ht
      have e1 := g.2.1
      rw [List.length_take] at e1
      rw [show (0 : Int).toNat = 0 from rfl, List.drop_zero, e1, show ((min j y.length : Nat) : Int).toNat = min j y.length by omega, List.drop_of_length_le (by rw [List.length_take]; omega), List.append_nil] at h1
      have e2 := tlvAt_put [] (y.drop j) (t := t) (b := x) ⟨h1.2.1, h1.2.2.1⟩ (by omega)
      rw [List.nil_append, ← h1.1, List.take_append_drop, h] at e2
      have e3 := tlvAt_put [] [] (t := 48) (b := z) (by omega) hz
      rw [List.nil_append, List.append_nil, e2] at e3
      simp only [Option.some.injEq, Prod.mk.injEq, List.length_nil, List.length_take] at e3
      rw [h] at hj
      omega
theorem impl_SameBinds_l0 (l : List S116) (M : Nat) (hn : l.length ≤ 1099511627776) (hM : M ≤ 1099511627776 ∧ ∀ x ∈ l, x.f0.length ≤ M ∧ x.f1.f3.length ≤ M) (d : Nat) : ∀ (k i : Nat), l.length - i = d → d + M + 1 < k → impl_SameBinds.l0 k l l (l.length : Int) (i : Int) = some true := by
  induction d with
  | zero =>
    intro k i hd hk
    obtain ⟨k, rfl⟩ : ∃ m, k = m + 1 := ⟨k - 1, by omega⟩
    rw [impl_SameBinds.l0, if_neg (by omega)]
  | succ d ih =>
    intro k i hd hk
    obtain ⟨k, rfl⟩ : ∃ m, k = m + 1 := ⟨k - 1, by omega⟩
    have hx : rd_T116 l (i : Int) ∈ l := by
      unfold rd_T116
      rw [Int.toNat_natCast, List.getD_eq_getElem?_getD, List.getElem?_eq_getElem (show i < l.length by omega)]
      exact List.getElem_mem _
    have := hM.2 _ hx
    rw [impl_SameBinds.l0, if_pos (by omega), if_pos (by omega), if_pos (by omega), if_pos (by omega), impl_SameOid_eq (by omega) (by omega), Option.bind_some, if_pos (decide_eq_true rfl), impl_SameVal_eq _ _ _ _ _ _ _ (by omega) (by omega), Option.bind_some, if_pos (decide_eq_true ⟨rfl, rfl, rfl, rfl⟩), w64 (by omega) (by omega), show (i : Int) + 1 = ((i + 1 : Nat) : Int) by omega]
    exact ih k (i + 1) (by omega) (by omega)
theorem samePdu_self (kd id a b : Int) {l : List S116} {M : Nat} (hn : l.length ≤ 1099511627776) (hM : M ≤ 1099511627776 ∧ ∀ x ∈ l, x.f0.length ≤ M ∧ x.f1.f3.length ≤ M) {k : Nat} (hk : l.length + M + 2 ≤ k) : laws_samePdu.f k kd id a b l kd id a b l = some true := by
  unfold laws_samePdu.f impl_SameBinds.f
  rw [if_pos rfl, if_pos rfl, if_pos rfl, if_pos rfl, if_pos rfl]
  have := impl_SameBinds_l0 l M hn hM l.length k 0 (by omega) (by omega)
  rw [show (0 : Int) = ((0 : Nat) : Int) from rfl, this]; rfl
end Go.Proofs.Ytkcgghgkmgbphaa.EqFnMsgs
