/- Names of things as bytes: each number in groups of seven bits. What is written is read, and what is read has just these bytes. Conditions: numbers from 0 to below 2^28, lists of bytes (B), as each lemma names them. -/
import Derived.Test.YtkcgghgkmgbphaaBaseFnMsgs
namespace Go.Proofs.Ytkcgghgkmgbphaa.Base
open Go.RowKit Go.Proofs.YtkcgghgkmgbphaaW.PrintWords

/-! ### bits of numbers that are not negative -/
theorem bits_and_nat {a b : Nat} (ha : a < 9223372036854775808) (hb : b < 9223372036854775808) : Go.bits .and .i64 (a : Int) (b : Int) = ((a &&& b : Nat) : Int) := by
  simp only [Go.bits]
  show IntKind.i64.wrap (((BitVec.ofInt 64 (a : Int) &&& BitVec.ofInt 64 (b : Int)).toNat : Int)) = _
  rw [BitVec.ofInt_natCast, BitVec.ofInt_natCast, BitVec.toNat_and, BitVec.toNat_ofNat, BitVec.toNat_ofNat, Nat.mod_eq_of_lt (by omega), Nat.mod_eq_of_lt (by omega), IntKind.wrap_i64]
  have := Nat.and_le_left (n := a) (m := b)
  omega
theorem bits_or_nat {a b : Nat} (ha : a < 9223372036854775808) (hb : b < 9223372036854775808) : Go.bits .or .i64 (a : Int) (b : Int) = ((a ||| b : Nat) : Int) := by
  simp only [Go.bits]
  show IntKind.i64.wrap (((BitVec.ofInt 64 (a : Int) ||| BitVec.ofInt 64 (b : Int)).toNat : Int)) = _
  rw [BitVec.ofInt_natCast, BitVec.ofInt_natCast, BitVec.toNat_or, BitVec.toNat_ofNat, BitVec.toNat_ofNat, Nat.mod_eq_of_lt (by omega), Nat.mod_eq_of_lt (by omega), IntKind.wrap_i64]
  have : a ||| b < 2 ^ 63 := Nat.or_lt_two_pow (by omega) (by omega)
  omega
theorem and127 {x : Int} (h0 : 0 ≤ x) (h1 : x ≤ 9223372036854775807) : Go.bits .and .i64 x 127 = x % 128 := by
  obtain ⟨n, rfl⟩ := Int.eq_ofNat_of_zero_le h0
  rw [show (127 : Int) = ((127 : Nat) : Int) from rfl, bits_and_nat (by omega) (by omega), show (127 : Nat) = 2 ^ 7 - 1 from rfl, Nat.and_two_pow_sub_one_eq_mod]
  omega
theorem and127_u8 {x : Int} (h0 : 0 ≤ x) (h1 : x ≤ 255) : Go.bits .and .u8 x 127 = x % 128 := by
  obtain ⟨n, rfl⟩ := Int.eq_ofNat_of_zero_le h0
  simp only [Go.bits]
  show IntKind.u8.wrap (((BitVec.ofInt 8 (n : Int) &&& BitVec.ofInt 8 ((127 : Nat) : Int)).toNat : Int)) = _
  rw [BitVec.ofInt_natCast, BitVec.ofInt_natCast, BitVec.toNat_and, BitVec.toNat_ofNat, BitVec.toNat_ofNat, Nat.mod_eq_of_lt (by omega), Nat.mod_eq_of_lt (by omega), show (127 : Nat) = 2 ^ 7 - 1 from rfl, Nat.and_two_pow_sub_one_eq_mod]
  show ((((n % 2 ^ 7 : Nat) : Int)) % 256) = _
  omega
theorem or128 {x : Int} (h0 : 0 ≤ x) (h1 : x < 128) : Go.bits .or .i64 x 128 = x + 128 := by
  obtain ⟨n, rfl⟩ := Int.eq_ofNat_of_zero_le h0
  rw [show (128 : Int) = ((128 : Nat) : Int) from rfl, bits_or_nat (by omega) (by omega), Nat.or_comm, show (128 : Nat) = 1 <<< 7 from rfl, ← Nat.shiftLeft_add_eq_or_of_lt (show n < 2 ^ 7 by omega)]
  simp only [Nat.shiftLeft_eq]
  omega
theorem or_seven {n x : Int} (h0 : 0 ≤ n) (h1 : n ≤ 72057594037927935) (h2 : 0 ≤ x) (h3 : x < 128) : Go.bits .or .i64 (n * 128) x = n * 128 + x := by
  obtain ⟨a, rfl⟩ := Int.eq_ofNat_of_zero_le h0
  obtain ⟨b, rfl⟩ := Int.eq_ofNat_of_zero_le h2
  rw [show (a : Int) * 128 = ((a * 128 : Nat) : Int) by omega, bits_or_nat (by omega) (by omega), show a * 128 = a <<< 7 by rw [Nat.shiftLeft_eq], ← Nat.shiftLeft_add_eq_or_of_lt (show b < 2 ^ 7 by omega)]
  rw [Nat.shiftLeft_eq]
  omega

/-! ### a number's bytes -/
/-- A number in groups of seven bits, the highest first. -/
def group (n : Int) : List Int :=
  if n < 128 then [n] else if n < 16384 then [n / 128 + 128, n % 128] else if n < 2097152 then [n / 16384 + 128, n / 128 % 128 + 128, n % 128]
  else [n / 2097152 + 128, n / 16384 % 128 + 128, n / 128 % 128 + 128, n % 128]
/-- A number that has at most four groups. -/
def G4 (n : Int) : Prop := 0 ≤ n ∧ n < 268435456
theorem group_B {n : Int} (h : G4 n) : B (group n) := by
  unfold G4 at h
  unfold group
  split
  · exact B.one (by omega) (by omega)
  · split
    · exact B.cons (by omega) (by omega) (B.one (by omega) (by omega))
    · split
      · exact B.cons (by omega) (by omega) (B.cons (by omega) (by omega) (B.one (by omega) (by omega)))
      · exact B.cons (by omega) (by omega) (B.cons (by omega) (by omega) (B.cons (by omega) (by omega) (B.one (by omega) (by omega))))
theorem group_len (n : Int) : 1 ≤ (group n).length ∧ (group n).length ≤ 4 ∧ (n < 2097152 → (group n).length ≤ 3) := by
  unfold group
  split
  · simp
  · split
    · simp
    · split
      · simp
      · simp only [List.length_cons, List.length_nil]; omega
/-- One number, read: what it is, and how many bytes it took; s: how many it may take. -/
def readG : Nat → Int → List Int → Option (Int × Nat)
  | 0, _, _ => none
  | _ + 1, _, [] => none
  | s + 1, n, x :: t => if x > 127 then (match readG s (n * 128 + x % 128) t with | none => none | some p => some (p.1, p.2 + 1)) else some (n * 128 + x % 128, 1)
theorem readG_group {v : Int} (hv : G4 v) (X : List Int) : readG 4 0 (group v ++ X) = some (v, (group v).length) := by
  unfold G4 at hv
  unfold group
  split
  · simp only [List.cons_append, List.nil_append, readG]
    rw [if_neg (by omega)]
    simp only [List.length_cons, List.length_nil]
    congr 2; omega
  · split
    · simp only [List.cons_append, List.nil_append, readG]
      rw [if_pos (by omega), if_neg (by omega)]
      simp only [List.length_cons, List.length_nil]
      congr 2; omega
    · split
      · simp only [List.cons_append, List.nil_append, readG]
        rw [if_pos (by omega), if_pos (by omega), if_neg (by omega)]
        simp only [List.length_cons, List.length_nil]
        congr 2; omega
      · simp only [List.cons_append, List.nil_append, readG]
        rw [if_pos (by omega), if_pos (by omega), if_pos (by omega), if_neg (by omega)]
        simp only [List.length_cons, List.length_nil]
        congr 2; omega
theorem readG_inv {r : List Int} (hB : B r) {v : Int} {c : Nat} (h : readG 4 0 r = some (v, c)) : G4 v ∧ 1 ≤ c ∧ c ≤ 4 ∧ c ≤ r.length ∧ ((group v).length = c → r = group v ++ r.drop c) := by
  have get : ∀ x ∈ r, 0 ≤ x ∧ x ≤ 255 := hB
  unfold G4
  match r, h, get with
  | [], h, _ => simp [readG] at h
  | x :: t, h, get =>
    have gx := get x (by simp)
    simp only [readG] at h
    by_cases h1 : x > 127
    · rw [if_pos h1] at h
      match t, h, get with
      | [], h, _ => simp [readG] at h
      | y :: t, h, get =>
        have gy := get y (by simp)
        simp only [readG] at h
        by_cases h2 : y > 127
        · rw [if_pos h2] at h
          match t, h, get with
          | [], h, _ => simp [readG] at h
          | z :: t, h, get =>
            have gz := get z (by simp)
            simp only [readG] at h
            by_cases h3 : z > 127
            · rw [if_pos h3] at h
              match t, h, get with
              | [], h, _ => simp [readG] at h
              | w :: t, h, get =>
                have gw := get w (by simp)
                simp only [readG] at h
                by_cases h4 : w > 127
                · rw [if_pos h4] at h; simp at h
                · rw [if_neg h4] at h
                  simp only [Option.some.injEq, Prod.mk.injEq] at h
                  obtain ⟨rfl, rfl⟩ := h
                  refine ⟨by omega, by omega, by omega, by simp, fun hl => ?_⟩
                  unfold group at hl ⊢
                  split at hl
                  · simp at hl
                  · split at hl
                    · simp at hl
                    · split at hl
                      · simp at hl
                      · rw [if_neg (by assumption), if_neg (by assumption), if_neg (by assumption)]
                        simp only [List.cons_append, List.nil_append, List.drop_succ_cons, List.drop_zero]
                        congr 1
                        · omega
                        · congr 1
                          · omega
                          · congr 1
                            · omega
                            · congr 1; omega
            · rw [if_neg h3] at h
              simp only [Option.some.injEq, Prod.mk.injEq] at h
              obtain ⟨rfl, rfl⟩ := h
              refine ⟨by omega, by omega, by omega, by simp, fun hl => ?_⟩
              unfold group at hl ⊢
              split at hl
              · simp at hl
              · split at hl
                · simp at hl
                · split at hl
                  · rw [if_neg (by assumption), if_neg (by assumption), if_pos (by assumption)]
                    simp only [List.cons_append, List.nil_append, List.drop_succ_cons, List.drop_zero]
                    congr 1
                    · omega
                    · congr 1
                      · omega
                      · congr 1; omega
                  · simp at hl
        · rw [if_neg h2] at h
          simp only [Option.some.injEq, Prod.mk.injEq] at h
          obtain ⟨rfl, rfl⟩ := h
          refine ⟨by omega, by omega, by omega, by simp, fun hl => ?_⟩
          unfold group at hl ⊢
          split at hl
          · simp at hl
          · split at hl
            · rw [if_neg (by assumption), if_pos (by assumption)]
              simp only [List.cons_append, List.nil_append, List.drop_succ_cons, List.drop_zero]
              congr 1
              · omega
              · congr 1; omega
            · split at hl <;> simp at hl
    · rw [if_neg h1] at h
      simp only [Option.some.injEq, Prod.mk.injEq] at h
      obtain ⟨rfl, rfl⟩ := h
      refine ⟨by omega, by omega, by omega, by simp, fun hl => ?_⟩
      unfold group
      rw [if_pos (by omega)]
      simp only [List.cons_append, List.nil_append, List.drop_succ_cons, List.drop_zero]
      congr 1; omega
theorem group_inj {v w : Int} (hv : G4 v) (hw : G4 w) {X Y : List Int} (h : group v ++ X = group w ++ Y) : v = w ∧ X = Y := by
  have h1 := readG_group hv X
  rw [h, readG_group hw Y] at h1
  simp only [Option.some.injEq, Prod.mk.injEq] at h1
  obtain ⟨rfl, _⟩ := h1
  exact ⟨rfl, List.append_cancel_left h⟩

/-! ### a name's bytes -/
theorem flat_prefix : ∀ (a o : List Int) (r : List Int), (∀ v ∈ a, G4 v) → (∀ v ∈ o, G4 v) → a.flatMap group ++ r = o.flatMap group → ∃ t, o = a ++ t ∧ r = t.flatMap group
  | [], o, r, _, _, h => ⟨o, rfl, by simpa using h⟩
  | v :: a, [], r, _, _, h => by
    have := (group_len v).1
    have h2 := congrArg List.length h
    simp only [List.flatMap_cons, List.length_append, List.flatMap_nil, List.length_nil] at h2
    omega
  | v :: a, w :: o, r, ha, ho, h => by
    rw [List.flatMap_cons, List.flatMap_cons, List.append_assoc] at h
    obtain ⟨rfl, h2⟩ := group_inj (ha v (by simp)) (ho w (by simp)) h
    obtain ⟨t, rfl, h3⟩ := flat_prefix a o r (fun x hx => ha x (by simp [hx])) (fun x hx => ho x (by simp [hx])) h2
    exact ⟨t, rfl, h3⟩
/-- A name is right. -/
def oidOk (o : List Int) : Bool := o.all (fun n => decide (0 ≤ n ∧ n ≤ 100000)) && decide (1 ≤ o.length ∧ o.length ≤ 10)
theorem oidOk_iff {o : List Int} : oidOk o = true ↔ (∀ n ∈ o, 0 ≤ n ∧ n ≤ 100000) ∧ 1 ≤ o.length ∧ o.length ≤ 10 := by
  simp [oidOk]
theorem oidOk_G4 {o : List Int} (h : oidOk o = true) : ∀ n ∈ o, G4 n := fun n hn => by have := (oidOk_iff.1 h).1 n hn; unfold G4; omega
def putOid (o : List Int) : List Int := if oidOk o = true then o.flatMap group else []
theorem flat_B {o : List Int} (h : ∀ n ∈ o, G4 n) : B (o.flatMap group) := fun x hx => by
  obtain ⟨n, hn, hx⟩ := List.mem_flatMap.1 hx
  exact group_B (h n hn) x hx
theorem flat_len : ∀ {o : List Int}, (∀ n ∈ o, n < 2097152) → o.length ≤ (o.flatMap group).length ∧ (o.flatMap group).length ≤ 3 * o.length
  | [], _ => by simp
  | n :: o, h => by
    have h1 := flat_len (o := o) (fun x hx => h x (by simp [hx]))
    have h2 := group_len n
    have h3 := h2.2.2 (h n (by simp))
    simp only [List.flatMap_cons, List.length_append, List.length_cons]
    omega
theorem putOid_B (o : List Int) : B (putOid o) := by
  unfold putOid
  split
  · rename_i h; exact flat_B (oidOk_G4 h)
  · exact B.nil
theorem putOid_len (o : List Int) : (putOid o).length ≤ 30 := by
  unfold putOid
  split
  · rename_i h
    have h2 := oidOk_iff.1 h
    have := (flat_len (o := o) (fun n hn => by have := h2.1 n hn; omega)).2
    omega
  · simp
theorem putOid_ne {o : List Int} (h : oidOk o = true) : 1 ≤ (putOid o).length := by
  unfold putOid
  rw [if_pos h]
  have h2 := oidOk_iff.1 h
  have := (flat_len (o := o) (fun n hn => by have := h2.1 n hn; omega)).1
  omega
theorem putOid_ok {o : List Int} (h : 1 ≤ (putOid o).length) : oidOk o = true := by
  unfold putOid at h
  split at h
  · assumption
  · simp at h
theorem putOid_inj {o p : List Int} (ho : oidOk o = true) (hp : oidOk p = true) (h : putOid o = putOid p) : o = p := by
  unfold putOid at h
  rw [if_pos ho, if_pos hp] at h
  obtain ⟨t, rfl, h2⟩ := flat_prefix o p [] (oidOk_G4 ho) (oidOk_G4 hp) (by simpa using h)
  cases t with
  | nil => simp
  | cons a t =>
    have := (group_len a).1
    have h3 := congrArg List.length h2
    simp only [List.length_nil, List.flatMap_cons, List.length_append] at h3
    omega
open Classical in
/-- What bytes name; false: nothing that is right. -/
noncomputable def getOid (b : List Int) : List Int × Bool := if h : ∃ o, oidOk o = true ∧ putOid o = b then (h.choose, true) else ([], false)
theorem getOid_put {o : List Int} (h : oidOk o = true) : getOid (putOid o) = (o, true) := by
  have hx : ∃ p, oidOk p = true ∧ putOid p = putOid o := ⟨o, h, rfl⟩
  unfold getOid
  rw [dif_pos hx, putOid_inj hx.choose_spec.1 h hx.choose_spec.2]
theorem getOid_no {b : List Int} (h : ¬ ∃ o, oidOk o = true ∧ putOid o = b) : getOid b = ([], false) := by
  unfold getOid
  rw [dif_neg h]
theorem getOid_bytes {b o : List Int} (h : getOid b = (o, true)) : oidOk o = true ∧ putOid o = b := by
  by_cases hx : ∃ o, oidOk o = true ∧ putOid o = b
  · obtain ⟨p, h1, h2⟩ := hx
    subst h2
    rw [getOid_put h1] at h
    simp only [Prod.mk.injEq, and_true] at h
    subst h
    exact ⟨h1, rfl⟩
  · rw [getOid_no hx] at h
    simp at h
theorem getOid_false {b : List Int} (h : (getOid b).2 = false) : getOid b = ([], false) := by
  by_cases hx : ∃ o, oidOk o = true ∧ putOid o = b
  · obtain ⟨p, h1, h2⟩ := hx
    subst h2
    rw [getOid_put h1] at h
    simp at h
  · exact getOid_no hx
theorem getOid_len (b : List Int) : (getOid b).1.length ≤ 10 := by
  cases h : (getOid b).2 with
  | false => rw [getOid_false h]; simp
  | true => exact (oidOk_iff.1 (getOid_bytes (b := b) (o := (getOid b).1) (by rw [← h])).1).2.2
theorem putOid_flat {o : List Int} (h : oidOk o = true) : putOid o = o.flatMap group := by unfold putOid; rw [if_pos h]

/-! ### read with a bound on what is kept -/
/-- The numbers that bytes hold, none kept above a bound. -/
def dec : Int → List Int → List Int
  | _, [] => []
  | n, x :: t => if x < 128 then (mn n 1048576 * 128 + x % 128) :: dec 0 t else dec (mn n 1048576 * 128 + x % 128) t
theorem dec_group {v : Int} (h0 : 0 ≤ v) (h1 : v ≤ 100000) (t : List Int) : dec 0 (group v ++ t) = v :: dec 0 t := by
  have m0 : mn 0 1048576 = 0 := by unfold mn; omega
  unfold group
  split
  · simp only [List.cons_append, List.nil_append, dec]
    rw [if_pos (by omega), m0]
    congr 1; omega
  · split
    · simp only [List.cons_append, List.nil_append, dec]
      rw [if_neg (by omega), if_pos (by omega), m0, show mn (0 * 128 + (v / 128 + 128) % 128) 1048576 = v / 128 by unfold mn; omega]
      congr 1; omega
    · split
      · simp only [List.cons_append, List.nil_append, dec]
        rw [if_neg (by omega), if_neg (by omega), if_pos (by omega), m0, show mn (0 * 128 + (v / 16384 + 128) % 128) 1048576 = v / 16384 by unfold mn; omega, show mn (v / 16384 * 128 + (v / 128 % 128 + 128) % 128) 1048576 = v / 128 by unfold mn; omega]
        congr 1; omega
      · omega
theorem dec_flat : ∀ {o : List Int}, (∀ n ∈ o, 0 ≤ n ∧ n ≤ 100000) → dec 0 (o.flatMap group) = o
  | [], _ => rfl
  | v :: o, h => by
    have hv := h v (by simp)
    rw [List.flatMap_cons, dec_group hv.1 hv.2, dec_flat (fun x hx => h x (by simp [hx]))]
theorem dec_range : ∀ (b : List Int) (n : Int), 0 ≤ n → n ≤ 268435455 → B b → (∀ v ∈ dec n b, 0 ≤ v ∧ v ≤ 268435455) ∧ (dec n b).length ≤ b.length
  | [], _, _, _, _ => by simp [dec]
  | x :: t, n, h0, h1, hB => by
    have gx := hB x (by simp)
    have hm : 0 ≤ mn n 1048576 * 128 + x % 128 ∧ mn n 1048576 * 128 + x % 128 ≤ 268435455 := by unfold mn; omega
    simp only [dec]
    split
    · have ih := dec_range t 0 (by omega) (by omega) (fun y hy => hB y (by simp [hy]))
      refine ⟨fun v hv => ?_, by simp only [List.length_cons]; omega⟩
      rcases List.mem_cons.1 hv with rfl | hv
      · exact hm
      · exact ih.1 v hv
    · have ih := dec_range t _ hm.1 hm.2 (fun y hy => hB y (by simp [hy]))
      exact ⟨ih.1, by simp only [List.length_cons]; omega⟩
/-- What is read with a bound, held against its own bytes. -/
theorem getOid_dec {b : List Int} : getOid b = if (putOid (dec 0 b)).length = 0 then ([], false) else if putOid (dec 0 b) = b then (dec 0 b, true) else ([], false) := by
  by_cases hx : ∃ o, oidOk o = true ∧ putOid o = b
  · obtain ⟨o, h1, h2⟩ := hx
    have hd : dec 0 b = o := by rw [← h2, putOid_flat h1]; exact dec_flat (oidOk_iff.1 h1).1
    have := putOid_ne h1
    rw [hd, h2, if_neg (by rw [← h2]; omega), if_pos rfl, ← h2, getOid_put h1]
  · rw [getOid_no hx]
    split
    · rfl
    · rename_i hl
      rw [if_neg (fun h2 => hx ⟨_, putOid_ok (by omega), h2⟩)]
end Go.Proofs.Ytkcgghgkmgbphaa.Base
