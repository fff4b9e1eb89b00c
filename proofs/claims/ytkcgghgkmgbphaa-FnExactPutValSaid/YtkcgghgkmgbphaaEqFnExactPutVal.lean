/- What the printed functions of FnExactPutVal answer, said in plain words of lists and numbers. Conditions: sizes and ranges, as each lemma names them. -/
import Derived.Test.YtkcgghgkmgbphaaPFnExactPutValx9
import Derived.Test.YtkcgghgkmgbphaaBaseFnExactPutVal
import Derived.Test.YtkcgghgkmgbphaaBytesFnExactPutVal
import Derived.Test.YtkcgghgkmgbphaaOidFnExactPutVal
import Derived.Test.YtkcgghgkmgbphaaValFnExactPutVal
namespace Go.Proofs.Ytkcgghgkmgbphaa.EqFnExactPutVal
open Go.RowKit Go.Proofs.Ytkcgghgkmgbphaa.PFnExactPutVal Go.Proofs.YtkcgghgkmgbphaaW.PrintWords Go.Proofs.YtkcgghgkmgbphaaW.PrintLast Go.Proofs.Ytkcgghgkmgbphaa.Base
theorem spec_l1In_eq (a b c : Int) : spec_l1In.f a b c = some (decide (b ≤ a ∧ a ≤ c)) := by
  unfold spec_l1In.f
  by_cases h : a ≥ b
  · rw [if_pos h]; congr 1; simp; omega
  · rw [if_neg h]; congr 1; simp; omega
theorem impl_in_eq (a b c : Int) : impl_in.f a b c = some (decide (b ≤ a ∧ a ≤ c)) := by
  unfold impl_in.f
  by_cases h : a ≥ b
  · rw [if_pos h]; congr 1; simp; omega
  · rw [if_neg h]; congr 1; simp; omega
theorem toByteS_l0 (xs : List Int) (hn : xs.length ≤ 1099511627776) (d : Nat) : ∀ (k i : Nat) (ys : List Int), ys.length = xs.length → ys.take i = xs.take i → i ≤ xs.length → xs.length - i = d → d < k → laws_toByteS.l0 k xs ys (i : Int) = some xs := by
  induction d with
  | zero =>
    intro k i ys hl ht hi hd hk
    obtain ⟨k, rfl⟩ : ∃ m, k = m + 1 := ⟨k - 1, by omega⟩
    simp only [laws_toByteS.l0]
    rw [if_neg (by omega)]
    rw [List.take_of_length_le (by omega), List.take_of_length_le (by omega)] at ht
    rw [ht]
  | succ d ih =>
    intro k i ys hl ht hi hd hk
    obtain ⟨k, rfl⟩ : ∃ m, k = m + 1 := ⟨k - 1, by omega⟩
    have hlt : i < xs.length := by omega
    simp only [laws_toByteS.l0]
    rw [if_pos (by omega), if_pos (by omega), if_pos (by omega), w64 (by omega) (by omega)]
    have := ih k (i + 1) (ys.set i (rd xs (i : Int))) (by rw [List.length_set]; exact hl) (set_take hl ht hlt) (by omega) (by omega) (by omega)
    simpa using this
theorem toByteS_eq {xs : List Int} (hn : xs.length ≤ 1099511627776) {k : Nat} (hk : xs.length < k) : laws_toByteS.f k xs = some xs := by
  unfold laws_toByteS.f
  rw [if_pos (by omega), if_pos (by omega)]
  have := toByteS_l0 xs hn xs.length k 0 (List.replicate xs.length 0) (by simp) (by simp) (by omega) (by omega) hk
  simpa using this
theorem eqByteS_l0 (xs : List Int) (hn : xs.length ≤ 1099511627776) (d : Nat) : ∀ (k i : Nat), xs.length - i = d → d < k → laws_eqByteS.l0 k xs xs (i : Int) = some true := by
  induction d with
  | zero =>
    intro k i hd hk
    obtain ⟨k, rfl⟩ : ∃ m, k = m + 1 := ⟨k - 1, by omega⟩
    simp only [laws_eqByteS.l0]
    rw [if_neg (by omega)]
  | succ d ih =>
    intro k i hd hk
    obtain ⟨k, rfl⟩ : ∃ m, k = m + 1 := ⟨k - 1, by omega⟩
    simp only [laws_eqByteS.l0]
    rw [if_pos (by omega), if_pos (by omega), if_pos (by omega), if_true, w64 (by omega) (by omega)]
    have := ih k (i + 1) (by omega) (by omega)
    simpa using this
theorem eqByteS_self {xs : List Int} (hn : xs.length ≤ 1099511627776) {k : Nat} (hk : xs.length < k) : laws_eqByteS.f k xs xs = some true := by
  unfold laws_eqByteS.f
  rw [if_pos rfl]
  have := eqByteS_l0 xs hn xs.length k 0 (by omega) hk
  simpa using this
theorem spec_l1Clip_eq (n : Int) : spec_l1Clip.f n = some (clip n) := by
  unfold spec_l1Clip.f clip
  repeat' split
  all_goals first | rfl | omega
theorem spec_PutInt_eq (n : Int) {k : Nat} (hk : 10 ≤ k) : spec_PutInt.f k n = some (putInt n) := by
  unfold spec_PutInt.f
  rw [spec_l1Clip_eq, Option.bind_some]
  unfold putInt
  obtain ⟨h0, h1⟩ := clip_range n
  generalize clip n = c at *
  obtain ⟨k, rfl⟩ : ∃ m, k = m + 5 := ⟨k - 5, by omega⟩
  have step : ∀ (k : Nat) (x : Int) (l : List Int), ¬ (-128 ≤ x ∧ x ≤ 127) → l.length < 1000 → spec_PutInt.l0 (k + 1) x l = spec_PutInt.l0 k (x / 256) ((x / 256) % 256 :: l) := by
    intro k x l hx hl
    simp only [spec_PutInt.l0, Option.bind_some, List.length_cons, List.length_nil, List.cons_append, List.nil_append]
    by_cases c : x < -128
    · rw [if_pos c, if_pos (by omega)]
    · rw [if_neg c, if_pos (by omega), if_pos (by omega)]
  have stop : ∀ (k : Nat) (x : Int) (l : List Int), (-128 ≤ x ∧ x ≤ 127) → spec_PutInt.l0 (k + 1) x l = some l := by
    intro k x l hx
    simp only [spec_PutInt.l0]
    rw [if_neg (by omega), if_neg (by omega)]
  unfold intBytes
  by_cases c1 : -128 ≤ c ∧ c ≤ 127
  · rw [if_pos c1]; exact stop _ _ _ c1
  · rw [if_neg c1, step _ _ _ c1 (by simp)]
    by_cases c2 : -32768 ≤ c ∧ c ≤ 32767
    · rw [if_pos c2]; exact stop _ _ _ (by omega)
    · rw [if_neg c2, step _ _ _ (by omega) (by simp)]
      by_cases c3 : -8388608 ≤ c ∧ c ≤ 8388607
      · rw [if_pos c3, stop _ _ _ (by omega), show c / 256 / 256 = c / 65536 by omega]
      · rw [if_neg c3, step _ _ _ (by omega) (by simp), stop _ _ _ (by omega), show c / 256 / 256 = c / 65536 by omega, show c / 65536 / 256 = c / 16777216 by omega]
theorem impl_PutInt_eq (n : Int) {k : Nat} (hk : 20 ≤ k) : impl_PutInt.f k n = some (putInt n) := by
  unfold impl_PutInt.f
  rw [mxmn]
  unfold putInt
  obtain ⟨h0, h1⟩ := clip_range n
  generalize clip n = c at *
  obtain ⟨k, rfl⟩ : ∃ m, k = m + 12 := ⟨k - 12, by omega⟩
  have nx : ∀ (k : Nat) (j : Int) (lo hi : Int), j < 4 → 0 ≤ wrap64 (wrap64 (8 * j) - 1) → shl .i64 (-1) (wrap64 (wrap64 (8 * j) - 1)) = lo → wrap64 (shl .i64 1 (wrap64 (wrap64 (8 * j) - 1)) - 1) = hi →
      impl_PutInt.l0 (k + 1) c j = if lo ≤ c ∧ c ≤ hi then impl_PutInt.j1 k c j else impl_PutInt.l0 k c (wrap64 (j + 1)) := by
    intro k j lo hi hj hs e1 e2
    simp only [impl_PutInt.l0]
    rw [if_pos hj, if_pos hs, e1, e2, impl_in_eq, Option.bind_some]
    by_cases h : lo ≤ c ∧ c ≤ hi
    · rw [if_pos (by simpa using h), if_pos h]
    · rw [if_neg (by simpa using h), if_neg h]
  have out : ∀ (k : Nat) (l : List Int) (j : Int) (v : Int), 0 ≤ j → j ≤ 3 → l.length < 1000 → shr .i64 c (wrap64 (8 * j)) = v → impl_PutInt.l1 (k + 1) c l j = impl_PutInt.l1 k c (l ++ [v % 256]) (wrap64 (j - 1)) := by
    intro k l j v hj hj3 hl hv
    simp only [impl_PutInt.l1]
    rw [if_pos hj, if_pos (by rw [w64 (by omega) (by omega)]; omega), if_pos (by omega), hv]
  have fin : ∀ (k : Nat) (l : List Int), impl_PutInt.l1 (k + 1) c l (-1) = some l := by
    intro k l
    simp only [impl_PutInt.l1]
    rw [if_neg (by omega)]
  have s0 : shr .i64 c (wrap64 (8 * 0)) = c := by unfold shr; rw [show (2 : Int) ^ min (wrap64 (8 * 0)).toNat IntKind.i64.bits = 1 by decide +kernel, Int.ediv_one]
  have s1 : shr .i64 c (wrap64 (8 * 1)) = c / 256 := by unfold shr; rw [show (2 : Int) ^ min (wrap64 (8 * 1)).toNat IntKind.i64.bits = 256 by decide +kernel]
  have s2 : shr .i64 c (wrap64 (8 * 2)) = c / 65536 := by unfold shr; rw [show (2 : Int) ^ min (wrap64 (8 * 2)).toNat IntKind.i64.bits = 65536 by decide +kernel]
  have s3 : shr .i64 c (wrap64 (8 * 3)) = c / 16777216 := by unfold shr; rw [show (2 : Int) ^ min (wrap64 (8 * 3)).toNat IntKind.i64.bits = 16777216 by decide +kernel]
  have w1 : wrap64 (1 - 1) = 0 := by decide +kernel
  have w2 : wrap64 (2 - 1) = 1 := by decide +kernel
  have w3 : wrap64 (3 - 1) = 2 := by decide +kernel
  have w4 : wrap64 (4 - 1) = 3 := by decide +kernel
  have w0 : wrap64 (0 - 1) = -1 := by decide +kernel
  unfold intBytes
  rw [nx (k + 11) 1 (-128) 127 (by omega) (by decide +kernel) (by decide +kernel) (by decide +kernel)]
  by_cases c1 : -128 ≤ c ∧ c ≤ 127
  · rw [if_pos c1, if_pos c1]
    simp only [impl_PutInt.j1]
    rw [w1, out _ _ 0 c (by omega) (by omega) (by simp) s0, w0, fin]
    rfl
  · rw [if_neg c1, if_neg c1, show wrap64 (1 + 1) = 2 by decide +kernel, nx _ 2 (-32768) 32767 (by omega) (by decide +kernel) (by decide +kernel) (by decide +kernel)]
    by_cases c2 : -32768 ≤ c ∧ c ≤ 32767
    · rw [if_pos c2, if_pos c2]
      simp only [impl_PutInt.j1]
      rw [w2, out _ _ 1 _ (by omega) (by omega) (by simp) s1, w1, out _ _ 0 c (by omega) (by omega) (by simp) s0, w0, fin]
      rfl
    · rw [if_neg c2, if_neg c2, show wrap64 (2 + 1) = 3 by decide +kernel, nx _ 3 (-8388608) 8388607 (by omega) (by decide +kernel) (by decide +kernel) (by decide +kernel)]
      by_cases c3 : -8388608 ≤ c ∧ c ≤ 8388607
      · rw [if_pos c3, if_pos c3]
        simp only [impl_PutInt.j1]
        rw [w3, out _ _ 2 _ (by omega) (by omega) (by simp) s2, w2, out _ _ 1 _ (by omega) (by omega) (by simp) s1, w1, out _ _ 0 c (by omega) (by omega) (by simp) s0, w0, fin]
        rfl
      · rw [if_neg c3, if_neg c3, show wrap64 (3 + 1) = 4 by decide +kernel]
        have : impl_PutInt.l0 (k + 8 + 1) c 4 = impl_PutInt.j1 (k + 8) c 4 := by simp only [impl_PutInt.l0]; rw [if_neg (by omega)]
        rw [this]
        simp only [impl_PutInt.j1]
        rw [w4, out _ _ 3 _ (by omega) (by omega) (by simp) s3, w3, out _ _ 2 _ (by omega) (by omega) (by simp) s2, w2, out _ _ 1 _ (by omega) (by omega) (by simp) s1, w1, out _ _ 0 c (by omega) (by omega) (by simp) s0, w0, fin]
        rfl
/-- Behind some intBytes a number is still small. -/
theorem fold_small (l : List Int) (hB : B l) (x : Int) (hx : -128 ≤ x ∧ x ≤ 127) (hl : l.length ≤ 3) (m : Nat) : -2147483648 ≤ (l.take m).foldl more x ∧ (l.take m).foldl more x ≤ 2147483647 := by
  have hl2 : (l.take m).length ≤ 3 := by rw [List.length_take]; omega
  have hB2 := hB.take m
  generalize l.take m = t at *
  match t, hl2, hB2 with
  | [], _, _ => simp only [List.foldl_nil]; omega
  | [a], _, h =>
    have ha := h a (by simp)
    simp only [List.foldl_cons, List.foldl_nil, more]; omega
  | [a, b], _, h =>
    have ha := h a (by simp)
    have hb := h b (by simp)
    simp only [List.foldl_cons, List.foldl_nil, more]; omega
  | [a, b, c], _, h =>
    have ha := h a (by simp)
    have hb := h b (by simp)
    have hc := h c (by simp)
    simp only [List.foldl_cons, List.foldl_nil, more]; omega
  | a :: b :: c :: d :: t, h, _ => simp at h
theorem impl_tlv_eq (t : Int) (b : List Int) (hb : b.length ≤ 1099511627776) {k : Nat} (hk : 1 ≤ k) : impl_tlv.f k t b = some (if 0 ≤ t ∧ t ≤ 255 ∧ b.length ≤ 250 then (tlv t b, true) else ([], false)) := by
  obtain ⟨k, rfl⟩ : ∃ m, k = m + 1 := ⟨k - 1, by omega⟩
  unfold impl_tlv.f
  rw [impl_in_eq, Option.bind_some]
  by_cases h1 : 0 ≤ t ∧ t ≤ 255
  · rw [if_pos (by simpa using h1)]
    simp only [impl_tlv.j0, Option.bind_some, List.length_cons, List.length_nil, List.length_append]
    by_cases h2 : (b.length : Int) > 250
    · rw [if_pos (by simpa using h2), if_neg (by omega)]
    · rw [if_neg (by simpa using h2), if_pos (show 0 ≤ t ∧ t ≤ 255 ∧ b.length ≤ 250 by omega)]
      unfold tlv
      by_cases h3 : (b.length : Int) ≥ 128
      · rw [if_pos h3, if_pos (by omega), if_pos (by omega), if_pos (by omega), if_pos (by omega), show (b.length : Int) % 256 = b.length by omega]
        rfl
      · rw [if_neg h3, if_pos (by omega), if_pos (by omega), if_neg (by omega), show (b.length : Int) % 256 = b.length by omega]
        rfl
  · rw [if_neg (by simp; omega), if_neg (by omega)]
    simp only [impl_tlv.j0]
    rfl
theorem impl_copyBytes_eq' {l : List Int} (hl : l.length ≤ 1099511627776) : impl_copyBytes.f l = some l := by
  unfold impl_copyBytes.f
  rw [if_pos (by simp only [List.length_nil]; omega)]
  rfl
theorem impl_PutTlv_eq {p : List Int} (t : Int) {b : List Int} (hp : p.length ≤ 1099511627776) (hb : b.length ≤ 1099511627776) {k : Nat} (hk : 1 ≤ k) : impl_PutTlv.f k p t b = some (putTlv p t b) := by
  unfold impl_PutTlv.f putTlv
  rw [impl_tlv_eq t b hb hk, Option.bind_some, impl_copyBytes_eq' hp, Option.bind_some]
  by_cases h : 0 ≤ t ∧ t ≤ 255 ∧ b.length ≤ 250
  · rw [if_pos h, if_pos h]
    have := tlv_len t b
    rw [if_pos (by simp only; split at this <;> omega)]
  · rw [if_neg h, if_neg h]
    rw [if_pos (by simp only [List.length_nil]; omega), List.append_nil]
theorem markByteS_l0 (n : Nat) (a : Int) (hn : n ≤ 1099511627776) (ha : 0 ≤ a) (ha2 : a ≤ 1099511627776) (d : Nat) : ∀ (k i : Nat) (ys : List Int), ys.length = n → ys.take i = (marks n a).take i → i ≤ n → n - i = d → d < k → laws_markByteS.l0 k ys (a + (i : Int)) (i : Int) = some (a + (n : Int), marks n a) := by
  induction d with
  | zero =>
    intro k i ys hl ht hi hd hk
    obtain ⟨k, rfl⟩ : ∃ m, k = m + 1 := ⟨k - 1, by omega⟩
    simp only [laws_markByteS.l0]
    rw [if_neg (by omega)]
    have hm := marks_len n a
    rw [List.take_of_length_le (by omega), List.take_of_length_le (by omega)] at ht
    rw [ht, show i = n by omega]
  | succ d ih =>
    intro k i ys hl ht hi hd hk
    obtain ⟨k, rfl⟩ : ∃ m, k = m + 1 := ⟨k - 1, by omega⟩
    have hm := marks_len n a
    simp only [laws_markByteS.l0]
    rw [if_pos (by omega), if_pos (by omega), w64 (by omega) (by omega), w64 (by omega) (by omega), ← marks_rd n a (show i < n by omega)]
    have := ih k (i + 1) (ys.set i (rd (marks n a) (i : Int))) (by rw [List.length_set]; exact hl) (set_take (by omega) ht (by omega)) (by omega) (by omega) (by omega)
    rw [show a + (i : Int) + 1 = a + ((i + 1 : Nat) : Int) by omega]
    simpa using this
theorem markByteS_eq (l : List Int) (a : Int) (hn : l.length ≤ 1099511627776) (ha : 0 ≤ a) (ha2 : a ≤ 1099511627776) {k : Nat} (hk : l.length < k) : laws_markByteS.f k l a = some (a + (l.length : Int), marks l.length a) := by
  unfold laws_markByteS.f
  have := markByteS_l0 l.length a hn ha ha2 l.length k 0 l rfl (by simp) (by omega) (by omega) hk
  simpa using this
theorem heldByteS_l0 (n : Nat) (a : Int) (hn : n ≤ 1099511627776) (ha : 0 ≤ a) (ha2 : a ≤ 1099511627776) (d : Nat) : ∀ (k i : Nat), i ≤ n → n - i = d → d < k → laws_heldByteS.l0 k (marks n a) (a + (i : Int)) (i : Int) = some (a + (n : Int)) := by
  have hm := marks_len n a
  induction d with
  | zero =>
    intro k i hi hd hk
    obtain ⟨k, rfl⟩ : ∃ m, k = m + 1 := ⟨k - 1, by omega⟩
    simp only [laws_heldByteS.l0]
    rw [if_neg (by omega), show i = n by omega]
  | succ d ih =>
    intro k i hi hd hk
    obtain ⟨k, rfl⟩ : ∃ m, k = m + 1 := ⟨k - 1, by omega⟩
    simp only [laws_heldByteS.l0]
    rw [if_pos (by omega), if_pos (by omega), if_pos (marks_rd n a (show i < n by omega)), w64 (by omega) (by omega), w64 (by omega) (by omega)]
    have := ih k (i + 1) (by omega) (by omega) (by omega)
    rw [show a + (i : Int) + 1 = a + ((i + 1 : Nat) : Int) by omega]
    exact this
theorem heldByteS_eq (n : Nat) (a : Int) (hn : n ≤ 1099511627776) (ha : 0 ≤ a) (ha2 : a ≤ 1099511627776) {k : Nat} (hk : n < k) : laws_heldByteS.f k (marks n a) a = some (a + (n : Int)) := by
  unfold laws_heldByteS.f
  have := heldByteS_l0 n a hn ha ha2 n k 0 (by omega) (by omega) hk
  simpa using this
theorem spec_PutTlv_eq {p : List Int} (t : Int) {b : List Int} (hp : p.length ≤ 1099511627776) (hb : b.length ≤ 1099511627776) {k : Nat} (hk : 1 ≤ k) : spec_PutTlv.f k p t b = some (putTlv p t b) := by
  obtain ⟨k, rfl⟩ : ∃ m, k = m + 1 := ⟨k - 1, by omega⟩
  unfold spec_PutTlv.f putTlv
  rw [Option.bind_some, if_pos (by simp only [List.length_nil]; omega), Option.bind_some, spec_l1In_eq, Option.bind_some, List.nil_append]
  by_cases h1 : 0 ≤ t ∧ t ≤ 255
  · rw [if_pos (decide_eq_true h1)]
    simp only [spec_PutTlv.j0]
    by_cases h2 : (b.length : Int) > 250
    · rw [if_pos (decide_eq_true h2), if_neg (by omega)]
    · rw [if_neg (by simpa using h2), if_pos (by omega), Option.bind_some, if_pos (show 0 ≤ t ∧ t ≤ 255 ∧ b.length ≤ 250 by omega)]
      unfold tlv
      by_cases h3 : (b.length : Int) > 127
      · rw [if_pos h3, if_pos (show 128 ≤ b.length by omega), if_pos (by simp only [List.length_append, List.length_cons, List.length_nil]; omega), Option.bind_some, if_pos (by simp only [List.length_append, List.length_cons, List.length_nil]; omega), Option.bind_some, if_pos (by simp only [List.length_append, List.length_cons, List.length_nil]; omega), show (b.length : Int) % 256 = b.length by omega]
        simp
      · rw [if_neg h3, if_neg (show ¬ 128 ≤ b.length by omega), if_pos (by simp only [List.length_append, List.length_cons, List.length_nil]; omega), Option.bind_some, if_pos (by simp only [List.length_append, List.length_cons, List.length_nil]; omega), show (b.length : Int) % 256 = b.length by omega]
        simp
  · rw [if_neg (by simpa using h1), if_neg (by omega)]
    simp only [spec_PutTlv.j0]
    rfl
theorem impl_OidOk_l0 (o : List Int) (hn : o.length ≤ 1099511627776) (d : Nat) : ∀ (k i : Nat), o.length - i = d → d < k → i ≤ o.length → impl_OidOk.l0 k o o (o.length : Int) (i : Int) = some ((o.drop i).all (fun n => decide (0 ≤ n ∧ n ≤ 100000)) && decide (1 ≤ o.length ∧ o.length ≤ 10)) := by
  induction d with
  | zero =>
    intro k i hd hk hi
    obtain ⟨k, rfl⟩ : ∃ m, k = m + 1 := ⟨k - 1, by omega⟩
    simp only [impl_OidOk.l0]
    rw [if_neg (by omega), impl_in_eq, Option.bind_some, List.drop_of_length_le (by omega), List.all_nil, Bool.true_and]
    congr 1
    exact decide_eq_decide.2 (by omega)
  | succ d ih =>
    intro k i hd hk hi
    obtain ⟨k, rfl⟩ : ∃ m, k = m + 1 := ⟨k - 1, by omega⟩
    simp only [impl_OidOk.l0]
    rw [if_pos (by omega), if_pos (by omega), if_pos (by omega), impl_in_eq, Option.bind_some, w64 (n := (i : Int) + 1) (by omega) (by omega), show ((i : Int) + 1) = ((i + 1 : Nat) : Int) by omega, ih k (i + 1) (by omega) (by omega) (by omega), drop_cons_rd (l := o) (n := i) (by omega), List.all_cons]
    by_cases h : 0 ≤ rd o (i : Int) ∧ rd o (i : Int) ≤ 100000
    · rw [if_pos (decide_eq_true h), decide_eq_true h, Bool.true_and]
    · rw [if_neg (by simpa using h), decide_eq_false h, Bool.false_and, Bool.false_and]
theorem impl_OidOk_eq {o : List Int} (hn : o.length ≤ 1099511627776) {k : Nat} (hk : o.length < k) : impl_OidOk.f k o = some (oidOk o) := by
  unfold impl_OidOk.f oidOk
  have := impl_OidOk_l0 o hn o.length k 0 (by omega) hk (by omega)
  simpa using this
theorem spec_OidOk_l0 (o : List Int) (hn : o.length ≤ 1099511627776) (d : Nat) : ∀ (k i : Nat), o.length - i = d → d < k → i ≤ o.length → spec_OidOk.l0 k o (i : Int) = some ((o.drop i).all (fun n => decide (0 ≤ n ∧ n ≤ 100000)) && decide (1 ≤ o.length ∧ o.length ≤ 10)) := by
  induction d with
  | zero =>
    intro k i hd hk hi
    obtain ⟨k, rfl⟩ : ∃ m, k = m + 1 := ⟨k - 1, by omega⟩
    simp only [spec_OidOk.l0]
    rw [if_neg (by omega), spec_l1In_eq, Option.bind_some, List.drop_of_length_le (by omega), List.all_nil, Bool.true_and]
    congr 1
    exact decide_eq_decide.2 (by omega)
  | succ d ih =>
    intro k i hd hk hi
    obtain ⟨k, rfl⟩ : ∃ m, k = m + 1 := ⟨k - 1, by omega⟩
    simp only [spec_OidOk.l0]
    rw [if_pos (by omega), if_pos (by omega), spec_l1In_eq, Option.bind_some, w64 (n := (i : Int) + 1) (by omega) (by omega), show ((i : Int) + 1) = ((i + 1 : Nat) : Int) by omega, ih k (i + 1) (by omega) (by omega) (by omega), drop_cons_rd (l := o) (n := i) (by omega), List.all_cons]
    by_cases h : 0 ≤ rd o (i : Int) ∧ rd o (i : Int) ≤ 100000
    · rw [if_pos (decide_eq_true h), decide_eq_true h, Bool.true_and]
    · rw [if_neg (by simpa using h), decide_eq_false h, Bool.false_and, Bool.false_and]
theorem spec_OidOk_eq {o : List Int} (hn : o.length ≤ 1099511627776) {k : Nat} (hk : o.length < k) : spec_OidOk.f k o = some (oidOk o) := by
  unfold spec_OidOk.f oidOk
  have := spec_OidOk_l0 o hn o.length k 0 (by omega) hk (by omega)
  simpa using this
theorem list_ext_rd {a b : List Int} (hl : a.length = b.length) (h : ∀ i : Nat, i < a.length → rd a (i : Int) = rd b (i : Int)) : a = b := by
  apply List.ext_getElem hl
  intro i h1 h2
  have := h i h1
  simp only [rd, Int.toNat_natCast, List.getD_eq_getElem?_getD, List.getElem?_eq_getElem h1, List.getElem?_eq_getElem h2, Option.getD_some] at this
  exact this
theorem impl_SameOid_l0 (a b : List Int) (hl : a.length = b.length) (hn : a.length ≤ 1099511627776) (d : Nat) : ∀ (k i : Nat), a.length - i = d → d < k → i ≤ a.length → (∀ j : Nat, j < i → rd a (j : Int) = rd b (j : Int)) → impl_SameOid.l0 k a b (a.length : Int) (i : Int) = some (decide (a = b)) := by
  induction d with
  | zero =>
    intro k i hd hk hi hj
    obtain ⟨k, rfl⟩ : ∃ m, k = m + 1 := ⟨k - 1, by omega⟩
    simp only [impl_SameOid.l0]
    rw [if_neg (by omega), decide_eq_true (list_ext_rd hl (fun j h => hj j (by omega)))]
  | succ d ih =>
    intro k i hd hk hi hj
    obtain ⟨k, rfl⟩ : ∃ m, k = m + 1 := ⟨k - 1, by omega⟩
    simp only [impl_SameOid.l0]
    rw [if_pos (by omega), if_pos (by omega), if_pos (by omega), if_pos (by omega), w64 (n := (i : Int) + 1) (by omega) (by omega), show ((i : Int) + 1) = ((i + 1 : Nat) : Int) by omega]
    by_cases h : rd a (i : Int) = rd b (i : Int)
    · rw [if_pos h, ih k (i + 1) (by omega) (by omega) (by omega) (fun j hj2 => by rcases Nat.lt_succ_iff_lt_or_eq.1 hj2 with h2 | rfl; exact hj j h2; exact h)]
    · rw [if_neg h, decide_eq_false (fun e => h (by rw [e]))]
theorem impl_SameOid_eq {a b : List Int} (hn : a.length ≤ 1099511627776) {k : Nat} (hk : a.length < k) : impl_SameOid.f k a b = some (decide (a = b)) := by
  unfold impl_SameOid.f
  by_cases hl : a.length = b.length
  · rw [if_pos (by omega)]
    exact impl_SameOid_l0 a b hl hn a.length k 0 (by omega) hk (by omega) (fun j h => by omega)
  · rw [if_neg (by omega), decide_eq_false (fun e => hl (by rw [e]))]
theorem shr7 (v : Int) : shr .i64 v 0 = v ∧ shr .i64 v 7 = v / 128 ∧ shr .i64 v 14 = v / 16384 := by
  refine ⟨?_, ?_, ?_⟩
  · show v / 1 = v; omega
  · rfl
  · rfl
theorem impl_PutOid_one {v : Int} (h0 : 0 ≤ v) (h1 : v ≤ 100000) (x o : List Int) (n i : Int) (hx : x.length ≤ 100000) (k : Nat) : ∃ k', k ≤ k' ∧ impl_PutOid.l1 (k + 6) x v 0 o n i = impl_PutOid.l0 k' (x ++ group v) o n (wrap64 (i + 1)) := by
  have s := shr7 v
  have w1 : wrap64 (0 + 1) = 1 := w64 (by omega) (by omega)
  have w2 : wrap64 (1 + 1) = 2 := w64 (by omega) (by omega)
  have w3 : wrap64 (2 - 1) = 1 := w64 (by omega) (by omega)
  have w4 : wrap64 (1 - 1) = 0 := w64 (by omega) (by omega)
  have e0 : wrap64 (7 * 0) = 0 := w64 (by omega) (by omega)
  have e1 : wrap64 (7 * 1) = 7 := w64 (by omega) (by omega)
  have e2 : wrap64 (7 * 2) = 14 := w64 (by omega) (by omega)
  have last : Go.bits .and .i64 v 127 % 256 = v % 128 := by rw [and127 h0 (by omega)]; omega
  have mid : ∀ y : Int, 0 ≤ y → y ≤ 100000 → wrap64 (Go.bits .and .i64 y 127 + 128) % 256 = y % 128 + 128 := by
    intro y hy hy2
    rw [and127 hy (by omega), w64 (by omega) (by omega)]; omega
  have A : ∀ (k : Nat) (x : List Int), x.length ≤ 200000 → impl_PutOid.l2 (k + 1) x v 0 o n i = impl_PutOid.l0 k (x ++ [v % 128]) o n (wrap64 (i + 1)) := by
    intro k x hx
    rw [impl_PutOid.l2, if_neg (by omega), if_pos (by omega), last]
  have A1 : ∀ (k : Nat) (x : List Int), x.length ≤ 150000 → impl_PutOid.l2 (k + 2) x v 1 o n i = impl_PutOid.l0 k (x ++ [v / 128 % 128 + 128, v % 128]) o n (wrap64 (i + 1)) := by
    intro k x hx
    rw [impl_PutOid.l2, e1, if_pos (by omega), if_pos (by omega), if_pos (by omega), s.2.1, mid _ (by omega) (by omega), w4, A _ _ (by rw [List.length_append]; simp only [List.length_cons, List.length_nil]; omega), List.append_assoc]
    rfl
  have A2 : ∀ (k : Nat) (x : List Int), x.length ≤ 100000 → impl_PutOid.l2 (k + 3) x v 2 o n i = impl_PutOid.l0 k (x ++ [v / 16384 % 128 + 128, v / 128 % 128 + 128, v % 128]) o n (wrap64 (i + 1)) := by
    intro k x hx
    rw [impl_PutOid.l2, e2, if_pos (by omega), if_pos (by omega), if_pos (by omega), s.2.2, mid _ (by omega) (by omega), w3, A1 _ _ (by rw [List.length_append]; simp only [List.length_cons, List.length_nil]; omega), List.append_assoc]
    rfl
  unfold group
  by_cases c1 : v < 128
  · rw [if_pos c1]
    refine ⟨k + 4, by omega, ?_⟩
    rw [impl_PutOid.l1, e0, if_pos (by omega), s.1, if_neg (by omega), A _ _ (by omega), show v % 128 = v by omega]
  · rw [if_neg c1]
    by_cases c2 : v < 16384
    · rw [if_pos c2]
      refine ⟨k + 2, by omega, ?_⟩
      rw [impl_PutOid.l1, e0, if_pos (by omega), s.1, if_pos (by omega), w1, impl_PutOid.l1, e1, if_pos (by omega), s.2.1, if_neg (by omega), A1 _ _ (by omega), show v / 128 % 128 = v / 128 by omega]
    · rw [if_neg c2, if_pos (by omega)]
      refine ⟨k, by omega, ?_⟩
      rw [impl_PutOid.l1, e0, if_pos (by omega), s.1, if_pos (by omega), w1, impl_PutOid.l1, e1, if_pos (by omega), s.2.1, if_pos (by omega), w2, impl_PutOid.l1, e2, if_pos (by omega), s.2.2, if_neg (by omega), A2 _ _ (by omega), show v / 16384 % 128 = v / 16384 by omega]
theorem impl_PutOid_l0 (o : List Int) (hn : o.length ≤ 10) (ho : ∀ n ∈ o, 0 ≤ n ∧ n ≤ 100000) (d : Nat) : ∀ (k i : Nat) (x : List Int), o.length - i = d → 7 * d < k → i ≤ o.length → x.length + 3 * d ≤ 1000 → impl_PutOid.l0 k x o (o.length : Int) (i : Int) = some (x ++ (o.drop i).flatMap group) := by
  induction d with
  | zero =>
    intro k i x hd hk hi hx
    obtain ⟨k, rfl⟩ : ∃ m, k = m + 1 := ⟨k - 1, by omega⟩
    simp only [impl_PutOid.l0]
    rw [if_neg (by omega), List.drop_of_length_le (by omega)]
    simp
  | succ d ih =>
    intro k i x hd hk hi hx
    obtain ⟨k, rfl⟩ : ∃ m, k = m + 6 + 1 := ⟨k - 7, by omega⟩
    have hm := ho (rd o (i : Int)) (by rw [rd_nat, List.getD_eq_getElem?_getD, List.getElem?_eq_getElem (show i < o.length by omega)]; exact List.getElem_mem _)
    have hg := group_len (rd o (i : Int))
    simp only [impl_PutOid.l0]
    rw [if_pos (by omega), if_pos (by omega), if_pos (by omega)]
    obtain ⟨k', hk', e⟩ := impl_PutOid_one hm.1 hm.2 x o (o.length : Int) (i : Int) (by omega) k
    rw [e, w64 (n := (i : Int) + 1) (by omega) (by omega), show ((i : Int) + 1) = ((i + 1 : Nat) : Int) by omega, ih k' (i + 1) _ (by omega) (by omega) (by omega) (by rw [List.length_append]; have := hg.2.2 (by omega); omega), drop_cons_rd (l := o) (n := i) (by omega), List.flatMap_cons, List.append_assoc]
theorem impl_PutOid_eq {o : List Int} (hn : o.length ≤ 1099511627776) {k : Nat} (hk : o.length + 80 ≤ k) : impl_PutOid.f k o = some (putOid o) := by
  unfold impl_PutOid.f putOid
  rw [impl_OidOk_eq hn (by omega), Option.bind_some]
  by_cases h : oidOk o = true
  · have hh := oidOk_iff.1 h
    rw [if_pos h, if_pos h]
    have := impl_PutOid_l0 o (by omega) hh.1 o.length k 0 [] (by omega) (by omega) (by omega) (by simp; omega)
    simpa using this
  · rw [if_neg h, if_neg h]
theorem spec_l2Group_eq {n : Int} (h : G4 n) {k : Nat} (hk : 5 ≤ k) : spec_l2Group.f k n = some (group n) := by
  unfold G4 at h
  obtain ⟨k, rfl⟩ : ∃ m, k = m + 5 := ⟨k - 5, by omega⟩
  have last : Go.bits .and .i64 n 127 % 256 = n % 128 := by rw [and127 h.1 (by omega)]; omega
  have mid : ∀ y : Int, 0 ≤ y → y ≤ 100000000 → Go.bits .or .i64 (Go.bits .and .i64 y 127) 128 % 256 = y % 128 + 128 := by
    intro y hy hy2
    rw [and127 hy (by omega), or128 (by omega) (by omega)]; omega
  unfold spec_l2Group.f group
  rw [last]
  by_cases c1 : n < 128
  · rw [spec_l2Group.l0, if_neg (by omega), if_pos c1, show n % 128 = n by omega]
  · rw [if_neg c1, spec_l2Group.l0, if_pos (by omega), Option.bind_some, if_pos (by simp only [List.length_cons, List.length_nil]; omega), mid _ (by omega) (by omega)]
    by_cases c2 : n < 16384
    · rw [if_pos c2, spec_l2Group.l0, if_neg (by omega), show n / 128 % 128 = n / 128 by omega]
      rfl
    · rw [if_neg c2, spec_l2Group.l0, if_pos (by omega), Option.bind_some, if_pos (by simp only [List.length_append, List.length_cons, List.length_nil]; omega), mid _ (by omega) (by omega)]
      by_cases c3 : n < 2097152
      · rw [if_pos c3, spec_l2Group.l0, if_neg (by omega), show n / 128 / 128 = n / 16384 by omega, show n / 16384 % 128 = n / 16384 by omega]
        rfl
      · rw [if_neg c3, spec_l2Group.l0, if_pos (by omega), Option.bind_some, if_pos (by simp only [List.length_append, List.length_cons, List.length_nil]; omega), mid _ (by omega) (by omega), spec_l2Group.l0, if_neg (by omega), show n / 128 / 128 = n / 16384 by omega, show n / 16384 / 128 = n / 2097152 by omega, show n / 2097152 % 128 = n / 2097152 by omega]
        rfl
theorem spec_PutOid_l0 (o : List Int) (hn : o.length ≤ 10) (ho : ∀ n ∈ o, 0 ≤ n ∧ n ≤ 100000) (d : Nat) : ∀ (k i : Nat) (x : List Int), o.length - i = d → d + 5 < k → i ≤ o.length → x.length + 3 * d ≤ 1000 → spec_PutOid.l0 k o x (i : Int) = some (x ++ (o.drop i).flatMap group) := by
  induction d with
  | zero =>
    intro k i x hd hk hi hx
    obtain ⟨k, rfl⟩ : ∃ m, k = m + 1 := ⟨k - 1, by omega⟩
    simp only [spec_PutOid.l0]
    rw [if_neg (by omega), List.drop_of_length_le (by omega)]
    simp
  | succ d ih =>
    intro k i x hd hk hi hx
    obtain ⟨k, rfl⟩ : ∃ m, k = m + 1 := ⟨k - 1, by omega⟩
    have hm := ho (rd o (i : Int)) (by rw [rd_nat, List.getD_eq_getElem?_getD, List.getElem?_eq_getElem (show i < o.length by omega)]; exact List.getElem_mem _)
    have hg := group_len (rd o (i : Int))
    simp only [spec_PutOid.l0]
    rw [if_pos (by omega), if_pos (by omega), spec_l2Group_eq (show G4 _ by unfold G4; omega) (by omega), Option.bind_some, if_pos (by omega), w64 (n := (i : Int) + 1) (by omega) (by omega), show ((i : Int) + 1) = ((i + 1 : Nat) : Int) by omega, ih k (i + 1) _ (by omega) (by omega) (by omega) (by rw [List.length_append]; have := hg.2.2 (by omega); omega), drop_cons_rd (l := o) (n := i) (by omega), List.flatMap_cons, List.append_assoc]
theorem spec_PutOid_eq {o : List Int} (hn : o.length ≤ 1099511627776) {k : Nat} (hk : o.length + 20 ≤ k) : spec_PutOid.f k o = some (putOid o) := by
  unfold spec_PutOid.f putOid
  rw [Option.bind_some, spec_OidOk_eq hn (by omega), Option.bind_some]
  by_cases h : oidOk o = true
  · have hh := oidOk_iff.1 h
    rw [if_pos h, if_pos h]
    have := spec_PutOid_l0 o (by omega) hh.1 o.length k 0 [] (by omega) (by omega) (by omega) (by simp; omega)
    simpa using this
  · rw [if_neg h, if_neg h]
theorem impl_SameVal_eq (k1 n1 : Int) (s1 : ByteArray) {o1 : List Int} (k2 n2 : Int) (s2 : ByteArray) (o2 : List Int) (hn : o1.length ≤ 1099511627776) {k : Nat} (hk : o1.length < k) : impl_SameVal.f k k1 n1 s1 o1 k2 n2 s2 o2 = some (decide (k1 = k2 ∧ n1 = n2 ∧ s1 = s2 ∧ o1 = o2)) := by
  unfold impl_SameVal.f
  rw [impl_SameOid_eq hn hk, Option.bind_some]
  by_cases h1 : k1 = k2
  · by_cases h2 : n1 = n2
    · by_cases h3 : s1 = s2
      · rw [if_pos h1, if_pos h2, if_pos (str_eq.2 h3)]
        congr 1; exact decide_eq_decide.2 (by simp [h1, h2, h3])
      · rw [if_pos h1, if_pos h2, if_neg (fun e => h3 (str_eq.1 e)), decide_eq_false (fun e => h3 e.2.2.1)]
    · rw [if_pos h1, if_neg h2, decide_eq_false (fun e => h2 e.2.1)]
  · rw [if_neg h1, decide_eq_false (fun e => h1 e.1)]
theorem bin_iff {a b : Bool} (h : a = true ↔ b = true) : a = b := Bool.eq_iff_iff.2 h
theorem size_iff (s : ByteArray) : s = (⟨#[]⟩ : ByteArray) ↔ s.size = 0 := ⟨fun h => by rw [h]; rfl, size0⟩
theorem impl_ValOk_eq (k1 n : Int) (s : ByteArray) {o : List Int} (hn : o.length ≤ 1099511627776) {k : Nat} (hk : o.length < k) : impl_ValOk.f k k1 n s o = some (valOk k1 n s o) := by
  unfold impl_ValOk.f valOk impl_isInt.f
  by_cases e1 : k1 = 2
  · rw [if_pos e1, if_pos e1, impl_in_eq, Option.bind_some, Option.bind_some]
    by_cases h : -2147483648 ≤ n ∧ n ≤ 2147483647
    · rw [if_pos (decide_eq_true h), impl_SameVal_eq _ _ _ _ _ _ _ hn hk, Option.bind_some]
      congr 1; exact decide_eq_decide.2 ⟨fun e => ⟨h.1, h.2, (size_iff s).1 e.2.2.1, by rw [e.2.2.2]; rfl⟩, fun e => ⟨rfl, rfl, size0 e.2.2.1, List.length_eq_zero_iff.1 e.2.2.2⟩⟩
    · rw [if_neg (by simpa using h), decide_eq_false (by omega)]
  · rw [if_neg e1, if_neg e1]
    by_cases e2 : k1 = 4
    · rw [if_pos e2, if_pos e2]
      by_cases h : (s.size : Int) ≤ 20
      · rw [if_pos h, impl_SameVal_eq _ _ _ _ _ _ _ hn hk, Option.bind_some]
        congr 1; exact decide_eq_decide.2 (by rw [← List.length_eq_zero_iff]; simp; omega)
      · rw [if_neg h, decide_eq_false (by omega)]
    · rw [if_neg e2, if_neg e2]
      by_cases e3 : k1 = 6
      · rw [if_pos e3, if_pos e3, impl_OidOk_eq hn hk, Option.bind_some]
        cases ok : oidOk o with
        | true =>
          rw [if_pos rfl, impl_SameVal_eq _ _ _ _ _ _ _ hn hk, Option.bind_some, Bool.true_and]
          congr 1; exact decide_eq_decide.2 (by rw [size_iff]; simp)
        | false => rw [if_neg (by decide), Bool.false_and]
      · rw [if_neg e3, if_neg e3]
        have fin : (impl_SameVal.f k k1 n s o k1 0 (⟨#[]⟩ : ByteArray) ([] : List Int)).bind (fun t => some t) = some (decide (n = 0 ∧ s.size = 0 ∧ o.length = 0)) := by
          rw [impl_SameVal_eq _ _ _ _ _ _ _ hn hk, Option.bind_some]
          congr 1; exact decide_eq_decide.2 (by rw [size_iff, ← List.length_eq_zero_iff]; simp)
        by_cases e4 : k1 = 5
        · rw [if_pos e4, if_pos (.inl e4), fin]
        · rw [if_neg e4]
          by_cases e5 : k1 = 128
          · rw [if_pos e5, if_pos (.inr (.inl e5)), fin]
          · rw [if_neg e5]
            by_cases e6 : k1 = 130
            · rw [if_pos e6, if_pos (.inr (.inr e6)), fin]
            · rw [if_neg e6, if_neg (by omega)]
theorem spec_ValOk_eq (k1 n : Int) (s : ByteArray) {o : List Int} (hn : o.length ≤ 1099511627776) {k : Nat} (hk : o.length + 1 < k) : spec_ValOk.f k k1 n s o = some (valOk k1 n s o) := by
  obtain ⟨k, rfl⟩ : ∃ m, k = m + 1 := ⟨k - 1, by omega⟩
  have yes : ∀ q, (k1 = 5 ∨ k1 = 128 ∨ k1 = 130) → spec_ValOk.j0 (k + 1) q true k1 n s o = some (valOk k1 n s o) := by
    intro q h
    have hv : valOk k1 n s o = decide (n = 0 ∧ s.size = 0 ∧ o.length = 0) := by
      unfold valOk
      rw [if_neg (by omega), if_neg (by omega), if_neg (by omega), if_pos h]
    rw [spec_ValOk.j0, if_pos rfl, hv]
    by_cases h1 : n = 0
    · rw [if_pos h1]
      by_cases h2 : s.toList = []
      · rw [if_pos h2]
        have := size_iff s
        congr 1; exact bin_iff (by rw [beq_iff_eq, decide_eq_true_iff]; exact ⟨fun e => ⟨h1, this.1 (toList_nil.1 h2), by omega⟩, fun e => by omega⟩)
      · rw [if_neg h2, decide_eq_false (fun e => h2 (toList_nil.2 (size0 e.2.1)))]
    · rw [if_neg h1, decide_eq_false (fun e => h1 e.1)]
  unfold spec_ValOk.f
  by_cases e1 : k1 = 5
  · rw [if_pos e1, beq_iff_eq.2 e1, yes _ (.inl e1)]
  · rw [if_neg e1]
    by_cases e2 : k1 = 128
    · rw [if_pos e2, beq_iff_eq.2 e2, yes _ (.inr (.inl e2))]
    · rw [if_neg e2]
      by_cases e3 : k1 = 130
      · rw [beq_iff_eq.2 e3, yes _ (.inr (.inr e3))]
      · rw [beq_eq_false_iff_ne.2 e3, spec_ValOk.j0, if_neg (by decide)]
        unfold valOk
        by_cases c1 : k1 = 2
        · rw [if_pos c1, if_pos c1, spec_l1Clip_eq, Option.bind_some]
          by_cases h1 : clip n = n
          · have hr := clip_range n
            rw [if_pos h1]
            by_cases h2 : s.toList = []
            · rw [if_pos h2]
              have := size_iff s
              congr 1; exact bin_iff (by rw [beq_iff_eq, decide_eq_true_iff]; exact ⟨fun e => ⟨by omega, by omega, this.1 (toList_nil.1 h2), by omega⟩, fun e => by omega⟩)
            · rw [if_neg h2, decide_eq_false (fun e => h2 (toList_nil.2 (size0 e.2.2.1)))]
          · rw [if_neg h1, decide_eq_false (fun e => h1 (clip_of e.1 e.2.1))]
        · rw [if_neg c1, if_neg c1]
          by_cases c2 : k1 = 4
          · rw [if_pos c2, if_pos c2]
            by_cases h1 : (s.size : Int) ≤ 20
            · rw [if_pos h1]
              by_cases h2 : n = 0
              · rw [if_pos h2]
                congr 1; exact bin_iff (by rw [beq_iff_eq, decide_eq_true_iff]; omega)
              · rw [if_neg h2, decide_eq_false (by omega)]
            · rw [if_neg h1, decide_eq_false (by omega)]
          · rw [if_neg c2, if_neg c2]
            by_cases c3 : k1 = 6
            · rw [if_pos c3, if_pos c3, spec_OidOk_eq hn (by omega), Option.bind_some]
              cases ok : oidOk o with
              | true =>
                rw [if_pos rfl, Bool.true_and]
                by_cases h2 : n = 0
                · rw [if_pos h2]
                  congr 1; exact bin_iff (by rw [beq_iff_eq, decide_eq_true_iff]; exact ⟨fun e => ⟨h2, (size_iff s).1 (toList_nil.1 e)⟩, fun e => toList_nil.2 (size0 e.2)⟩)
                · rw [if_neg h2, decide_eq_false (by omega)]
              | false => rw [if_neg (by decide), Bool.false_and]
            · rw [if_neg c3, if_neg c3, if_neg (by omega)]
theorem impl_PutVal_eq {p : List Int} (hp : p.length ≤ 1000000000000) (k1 n : Int) (s : ByteArray) {o : List Int} (hn : o.length ≤ 1099511627776) {k : Nat} (hk : o.length + 80 ≤ k) : impl_PutVal.f k p k1 n s o = some (putVal p k1 n s o) := by
  unfold impl_PutVal.f
  rw [impl_ValOk_eq k1 n s hn (by omega), Option.bind_some]
  cases ok : valOk k1 n s o with
  | false =>
    rw [if_neg (by decide), impl_copyBytes_eq' (by omega), Option.bind_some]
    unfold putVal
    rw [ok]; rfl
  | true =>
    have hv := valOk_kind ok
    have ht := putVal_tlv (p := p) ok
    rw [if_pos rfl]
    unfold valBody at hv ht
    by_cases e1 : k1 = 2
    · rw [if_pos e1] at hv ht
      rw [if_pos e1, impl_PutInt_eq n (by omega), Option.bind_some, impl_PutTlv_eq _ (by omega) (by omega) (by omega), Option.bind_some, ht]
    · rw [if_neg e1] at hv ht
      rw [if_neg e1]
      by_cases e2 : k1 = 4
      · rw [if_pos e2] at hv ht
        have := bytesOf_len s
        rw [if_pos e2, if_pos (by omega), impl_PutTlv_eq _ (by omega) (by omega) (by omega), Option.bind_some, ht]
      · rw [if_neg e2] at hv ht
        rw [if_neg e2]
        by_cases e3 : k1 = 6
        · rw [if_pos e3] at hv ht
          rw [if_pos e3, impl_PutOid_eq hn (by omega), Option.bind_some, impl_PutTlv_eq _ (by omega) (by omega) (by omega), Option.bind_some, ht]
        · rw [if_neg e3] at hv ht
          rw [if_neg e3, impl_PutTlv_eq _ (by omega) (by simp) (by omega), Option.bind_some, ht]
theorem spec_PutVal_eq {p : List Int} (hp : p.length ≤ 1000000000000) (k1 n : Int) (s : ByteArray) {o : List Int} (hn : o.length ≤ 1099511627776) {k : Nat} (hk : o.length + 30 ≤ k) : spec_PutVal.f k p k1 n s o = some (putVal p k1 n s o) := by
  unfold spec_PutVal.f
  rw [spec_ValOk_eq k1 n s hn (by omega), Option.bind_some]
  cases ok : valOk k1 n s o with
  | false =>
    rw [if_neg (by decide), Option.bind_some, if_pos (by simp only [List.length_nil]; omega)]
    unfold putVal
    rw [ok]; rfl
  | true =>
    have hv := valOk_kind ok
    have ht := putVal_tlv (p := p) ok
    rw [if_pos rfl]
    unfold valBody at hv ht
    by_cases e1 : k1 = 2
    · rw [if_pos e1] at hv ht
      rw [if_pos e1, spec_PutInt_eq n (by omega), Option.bind_some, spec_PutTlv_eq _ (by omega) (by omega) (by omega), Option.bind_some, ht]
    · rw [if_neg e1] at hv ht
      rw [if_neg e1]
      by_cases e2 : k1 = 4
      · rw [if_pos e2] at hv ht
        have := bytesOf_len s
        rw [if_pos e2, if_pos (by omega), spec_PutTlv_eq _ (by omega) (by omega) (by omega), Option.bind_some, ht]
      · rw [if_neg e2] at hv ht
        rw [if_neg e2]
        by_cases e3 : k1 = 6
        · rw [if_pos e3] at hv ht
          rw [if_pos e3, spec_PutOid_eq hn (by omega), Option.bind_some, spec_PutTlv_eq _ (by omega) (by omega) (by omega), Option.bind_some, ht]
        · rw [if_neg e3] at hv ht
          rw [if_neg e3, spec_PutTlv_eq _ (by omega) (by simp) (by omega), Option.bind_some, ht]
theorem toIntS_l0 (xs : List Int) (hn : xs.length ≤ 1099511627776) (d : Nat) : ∀ (k i : Nat) (ys : List Int), ys.length = xs.length → ys.take i = xs.take i → i ≤ xs.length → xs.length - i = d → d < k → laws_toIntS.l0 k xs ys (i : Int) = some xs := by
  induction d with
  | zero =>
    intro k i ys hl ht hi hd hk
    obtain ⟨k, rfl⟩ : ∃ m, k = m + 1 := ⟨k - 1, by omega⟩
    simp only [laws_toIntS.l0]
    rw [if_neg (by omega)]
    rw [List.take_of_length_le (by omega), List.take_of_length_le (by omega)] at ht
    rw [ht]
  | succ d ih =>
    intro k i ys hl ht hi hd hk
    obtain ⟨k, rfl⟩ : ∃ m, k = m + 1 := ⟨k - 1, by omega⟩
    have hlt : i < xs.length := by omega
    simp only [laws_toIntS.l0]
    rw [if_pos (by omega), if_pos (by omega), if_pos (by omega), w64 (by omega) (by omega)]
    have := ih k (i + 1) (ys.set i (rd xs (i : Int))) (by rw [List.length_set]; exact hl) (set_take hl ht hlt) (by omega) (by omega) (by omega)
    simpa using this
theorem toIntS_eq {xs : List Int} (hn : xs.length ≤ 1099511627776) {k : Nat} (hk : xs.length < k) : laws_toIntS.f k xs = some xs := by
  unfold laws_toIntS.f
  rw [if_pos (by omega), if_pos (by omega)]
  have := toIntS_l0 xs hn xs.length k 0 (List.replicate xs.length 0) (by simp) (by simp) (by omega) (by omega) hk
  simpa using this
theorem toVal_eq (t n : Int) (x : ByteArray) {o : List Int} (hn : o.length ≤ 1099511627776) {k : Nat} (hk : o.length < k) : laws_toVal.f k t n x o = some (t, n, x, o) := by
  unfold laws_toVal.f
  rw [toIntS_eq hn hk, Option.bind_some]
theorem eqIntS_l0 (xs : List Int) (hn : xs.length ≤ 1099511627776) (d : Nat) : ∀ (k i : Nat), xs.length - i = d → d < k → laws_eqIntS.l0 k xs xs (i : Int) = some true := by
  induction d with
  | zero =>
    intro k i hd hk
    obtain ⟨k, rfl⟩ : ∃ m, k = m + 1 := ⟨k - 1, by omega⟩
    simp only [laws_eqIntS.l0]
    rw [if_neg (by omega)]
  | succ d ih =>
    intro k i hd hk
    obtain ⟨k, rfl⟩ : ∃ m, k = m + 1 := ⟨k - 1, by omega⟩
    simp only [laws_eqIntS.l0]
    rw [if_pos (by omega), if_pos (by omega), if_pos (by omega), if_true, w64 (by omega) (by omega)]
    have := ih k (i + 1) (by omega) (by omega)
    simpa using this
theorem eqIntS_self {xs : List Int} (hn : xs.length ≤ 1099511627776) {k : Nat} (hk : xs.length < k) : laws_eqIntS.f k xs xs = some true := by
  unfold laws_eqIntS.f
  rw [if_pos rfl]
  have := eqIntS_l0 xs hn xs.length k 0 (by omega) hk
  simpa using this
theorem eqVal_self (t n : Int) (x : ByteArray) {o : List Int} (hn : o.length ≤ 1099511627776) {k : Nat} (hk : o.length < k) : laws_eqVal.f k t n x o t n x o = some true := by
  unfold laws_eqVal.f
  rw [if_pos rfl, if_pos rfl, if_pos rfl, eqIntS_self hn hk, Option.bind_some, if_pos rfl]
theorem markIntS_l0 (n : Nat) (a : Int) (hn : n ≤ 1099511627776) (ha : 0 ≤ a) (ha2 : a ≤ 1099511627776) (d : Nat) : ∀ (k i : Nat) (ys : List Int), ys.length = n → i ≤ n → n - i = d → d < k → ∃ l, laws_markIntS.l0 k ys (a + (i : Int)) (i : Int) = some (a + (n : Int), l) ∧ l.length = n := by
  induction d with
  | zero =>
    intro k i ys hl hi hd hk
    obtain ⟨k, rfl⟩ : ∃ m, k = m + 1 := ⟨k - 1, by omega⟩
    simp only [laws_markIntS.l0]
    rw [if_neg (by omega), show i = n by omega]
    exact ⟨_, rfl, hl⟩
  | succ d ih =>
    intro k i ys hl hi hd hk
    obtain ⟨k, rfl⟩ : ∃ m, k = m + 1 := ⟨k - 1, by omega⟩
    simp only [laws_markIntS.l0]
    rw [if_pos (by omega), if_pos (by omega), w64 (n := a + (i : Int) + 1) (by omega) (by omega), w64 (n := (i : Int) + 1) (by omega) (by omega), show a + (i : Int) + 1 = a + ((i + 1 : Nat) : Int) by omega, show (i : Int) + 1 = ((i + 1 : Nat) : Int) by omega]
    exact ih k (i + 1) _ (by rw [List.length_set]; exact hl) (by omega) (by omega) (by omega)
theorem markIntS_eq (l : List Int) (a : Int) (hn : l.length ≤ 1099511627776) (ha : 0 ≤ a) (ha2 : a ≤ 1099511627776) {k : Nat} (hk : l.length < k) : ∃ x, laws_markIntS.f k l a = some (a + (l.length : Int), x) ∧ x.length = l.length := by
  unfold laws_markIntS.f
  have := markIntS_l0 l.length a hn ha ha2 l.length k 0 l rfl (by omega) (by omega) hk
  simpa using this
theorem markVal_eq (t n : Int) (s : ByteArray) (l : List Int) (a : Int) (hn : l.length ≤ 1099511627776) (ha : 0 ≤ a) (ha2 : a ≤ 1099511627776) {k : Nat} (hk : l.length < k) : ∃ x, laws_markVal.f k t n s l a = some (a + (l.length : Int), x) ∧ x.length = l.length := by
  unfold laws_markVal.f
  obtain ⟨x, e, hx⟩ := markIntS_eq l a hn ha ha2 hk
  rw [e, Option.bind_some]
  exact ⟨_, rfl, hx⟩
theorem szIntS_eq (l : List Int) (hl : l.length ≤ 9223372036854775807) {a : Int} (h0 : 0 ≤ a) (h1 : a ≤ 1048576) : laws_szIntS.f l a = some (if a < (l.length : Int) then -1 else a - (l.length : Int)) := by
  unfold laws_szIntS.f
  rw [w64 (n := a - (l.length : Int)) (by omega) (by omega)]
  by_cases h : a < (l.length : Int)
  · rw [if_pos (by omega), if_pos h]
  · rw [if_neg (by omega), if_neg h]
theorem szVal_eq (t n : Int) (s : ByteArray) (l : List Int) (hs : s.size ≤ 9223372036854775807) (hl : l.length ≤ 9223372036854775807) {a : Int} (h0 : 0 ≤ a) (h1 : a ≤ 1048576) : laws_szVal.f t n s l a = some (if a < (s.size : Int) + (l.length : Int) then -1 else a - (s.size : Int) - (l.length : Int)) := by
  unfold laws_szVal.f
  rw [w64 (n := a - (s.size : Int)) (by omega) (by omega)]
  by_cases h : a - (s.size : Int) < 0
  · rw [if_pos h, if_pos (by omega)]
  · rw [if_neg h, szIntS_eq l hl (by omega) (by omega), Option.bind_some]
    by_cases h2 : a - (s.size : Int) < (l.length : Int)
    · rw [if_pos h2, if_pos (by omega), if_pos (by omega)]
    · rw [if_neg h2, if_neg (by omega), if_neg (by omega)]
end Go.Proofs.Ytkcgghgkmgbphaa.EqFnExactPutVal
