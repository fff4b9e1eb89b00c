/- What the printed functions of FnFdbsBent answer, said in plain words of lists and numbers. Conditions: sizes and ranges, as each lemma names them. -/
import Derived.Test.YtkcgghgkmgbphaaPFnFdbsBentx15
import Derived.Test.YtkcgghgkmgbphaaBaseFnFdbsBent
namespace Go.Proofs.Ytkcgghgkmgbphaa.EqFnFdbsBent
open Go.RowKit Go.Proofs.Ytkcgghgkmgbphaa.PFnFdbsBent Go.Proofs.YtkcgghgkmgbphaaW.PrintWords Go.Proofs.YtkcgghgkmgbphaaW.PrintLast Go.Proofs.Ytkcgghgkmgbphaa.Base
theorem spec_l1In_eq (a b c : Int) : spec_l1In.f a b c = some (decide (b ≤ a ∧ a ≤ c)) := by
  unfold spec_l1In.f
  by_cases h : a ≥ b
  · rw [if_pos h]; congr 1; simp; omega
  · rw [if_neg h]; congr 1; simp; omega
theorem impl_in_eq (a b c : Int) : impl_in.f a b c = some (decide (b ≤ a ∧ a ≤ c)) := by
  unfold impl_in.f
  by_cases h : a ≥ b
  · rw [if_pos h]; congr 1; simp; omega
  · rw [if_neg h]; congr 1; simp; omega
/-- Behind some intBytes a number is still small. -/
theorem fold_small (l : List Int) (hB : B l) (x : Int) (hx : -128 ≤ x ∧ x ≤ 127) (hl : l.length ≤ 3) (m : Nat) : -2147483648 ≤ (l.take m).foldl more x ∧ (l.take m).foldl more x ≤ 2147483647 := by
  have hl2 : (l.take m).length ≤ 3 := by rw [List.length_take]; omega
  have hB2 := hB.take m
  generalize l.take m = t at *
  match t, hl2, hB2 with
  | [], _, _ => simp only [List.foldl_nil]; omega
  | [a], _, h =>
    have ha := h a (by simp)
    simp only [List.foldl_cons, List.foldl_nil, more]; omega
  | [a, b], _, h =>
    have ha := h a (by simp)
    have hb := h b (by simp)
    simp only [List.foldl_cons, List.foldl_nil, more]; omega
  | [a, b, c], _, h =>
    have ha := h a (by simp)
    have hb := h b (by simp)
    have hc := h c (by simp)
    simp only [List.foldl_cons, List.foldl_nil, more]; omega
  | a :: b :: c :: d :: t, h, _ => simp at h
/-! ### entries -/
theorem rdT_cons {l : List S49} {n : Nat} (h : n < l.length) : l.drop n = rd_T49 l (n : Int) :: l.drop (n + 1) := by
  rw [List.drop_eq_getElem_cons h]
  congr 1
  unfold rd_T49
  rw [Int.toNat_natCast, List.getD_eq_getElem?_getD, List.getElem?_eq_getElem h]; rfl
theorem rdT_eta (e : S49) : (⟨e.f0, e.f1, e.f2, e.f3, e.f4⟩ : S49) = e := rfl
def entOk (t m p a : Int) (s : Bool) : Bool := decide (1 ≤ t ∧ t ≤ 99 ∧ 1 ≤ m ∧ m ≤ 9999 ∧ 0 ≤ p ∧ p ≤ 7 ∧ 0 ≤ a ∧ a ≤ 4 ∧ (s = true → a = 0))
def eOk (e : S49) : Bool := entOk e.f0 e.f1 e.f2 e.f3 e.f4
/-- Is an entry ahead of a tag and a mac? -/
def aheadP (e : S49) (t m : Int) : Prop := e.f0 < t ∨ e.f0 = t ∧ e.f1 < m
instance (e : S49) (t m : Int) : Decidable (aheadP e t m) := inferInstanceAs (Decidable (_ ∨ _))
def behindP (e : S49) (t m : Int) : Prop := t < e.f0 ∨ e.f0 = t ∧ m < e.f1
instance (e : S49) (t m : Int) : Decidable (behindP e t m) := inferInstanceAs (Decidable (_ ∨ _))
def linkB (p : Option S49) (e : S49) : Bool := match p with | none => true | some q => decide (aheadP q e.f0 e.f1)
/-- All are right, each behind the one ahead of it. -/
def chain : Option S49 → List S49 → Bool
  | _, [] => true
  | p, e :: l => eOk e && (linkB p e && chain (some e) l)
theorem chain_nil (p : Option S49) : chain p [] = true := rfl
theorem chain_eq (p : Option S49) (e : S49) (l : List S49) : chain p (e :: l) = (eOk e && (linkB p e && chain (some e) l)) := rfl
def fdbOk (l : List S49) : Bool := chain none l && decide (l.length ≤ 12)
def before (l : List S49) (i : Nat) : Option S49 := if i = 0 then none else some (rd_T49 l ((i : Int) - 1))
/-- The place of the first of both, from a place on; -1. -/
def entFrom (t m : Int) : List S49 → Int → Int
  | [], _ => -1
  | e :: l, i => if e.f0 = t ∧ e.f1 = m then i else entFrom t m l (i + 1)
theorem entFrom_eq (t m : Int) (e : S49) (l : List S49) (i : Int) : entFrom t m (e :: l) i = if e.f0 = t ∧ e.f1 = m then i else entFrom t m l (i + 1) := rfl
def ent (l : List S49) (t m : Int) : Int := entFrom t m l 0
def ageE (e : S49) : Option S49 := if e.f4 = true then some e else if e.f3 < 4 then some ⟨e.f0, e.f1, e.f2, wrap64 (e.f3 + 1), e.f4⟩ else none
def ageL (l : List S49) : List S49 := l.filterMap ageE
theorem ageL_cons (e : S49) (l : List S49) : ageL (e :: l) = if e.f4 = true then e :: ageL l else if e.f3 < 4 then ⟨e.f0, e.f1, e.f2, wrap64 (e.f3 + 1), e.f4⟩ :: ageL l else ageL l := by
  unfold ageL
  rw [List.filterMap_cons]
  by_cases h1 : e.f4 = true
  · rw [if_pos h1]; simp [ageE, h1]
  · rw [if_neg h1]
    by_cases h2 : e.f3 < 4
    · rw [if_pos h2]; simp [ageE, h1, h2]
    · rw [if_neg h2]; simp [ageE, h1, h2]
def flushL (l : List S49) (p : Int) : List S49 := l.filter fun e => e.f4 || !(e.f2 == p)
theorem flushL_cons (e : S49) (l : List S49) (p : Int) : flushL (e :: l) p = if e.f4 = true then e :: flushL l p else if e.f2 = p then flushL l p else e :: flushL l p := by
  unfold flushL
  rw [List.filter_cons]
  by_cases h1 : e.f4 = true
  · rw [if_pos h1]; simp [h1]
  · rw [if_neg h1]
    by_cases h2 : e.f2 = p
    · rw [if_pos h2]; simp [h1, h2]
    · rw [if_neg h2]; simp [h2]
/-- In the place ahead of the first that is not ahead; what is of both goes. -/
def putGo (e : S49) : Bool → List S49 → List S49
  | true, [] => []
  | false, [] => [e]
  | true, x :: l => if x.f0 = e.f0 ∧ x.f1 = e.f1 then putGo e true l else x :: putGo e true l
  | false, x :: l => if aheadP x e.f0 e.f1 then x :: putGo e false l else e :: (if x.f0 = e.f0 ∧ x.f1 = e.f1 then putGo e true l else x :: putGo e true l)
def putL (l : List S49) (e : S49) : List S49 := putGo e false l
theorem aheadP_not_same {x : S49} {t m : Int} (h : aheadP x t m) : ¬ (x.f0 = t ∧ x.f1 = m) := by unfold aheadP at h; omega
theorem entFrom_ge (t m : Int) (l : List S49) : ∀ i : Int, 0 ≤ i → entFrom t m l i = -1 ∨ (i ≤ entFrom t m l i ∧ entFrom t m l i < i + l.length) := by
  induction l with
  | nil => intro i _; exact .inl rfl
  | cons e l ih =>
    intro i hi
    unfold entFrom
    split
    · right; simp; omega
    · rcases ih (i + 1) (by omega) with h | h
      · exact .inl h
      · right; simp; omega
theorem ent_range (l : List S49) (t m : Int) : ent l t m = -1 ∨ (0 ≤ ent l t m ∧ ent l t m < l.length) := by
  have := entFrom_ge t m l 0 (by omega)
  simpa [ent] using this
theorem impl_fentOk_eq (t m p a : Int) (s : Bool) : impl_fentOk.f t m p a s = some (entOk t m p a s) := by
  unfold impl_fentOk.f entOk
  simp only [impl_in_eq, Option.bind_some, decide_eq_true_eq]
  by_cases h1 : 1 ≤ t ∧ t ≤ 99
  · rw [if_pos h1]
    by_cases h2 : 1 ≤ m ∧ m ≤ 9999
    · rw [if_pos h2]
      by_cases h3 : 0 ≤ p ∧ p ≤ 7
      · rw [if_pos h3]
        by_cases h4 : 0 ≤ a ∧ a ≤ 4
        · rw [if_pos h4]
          cases s with
          | true =>
            rw [if_pos rfl]; congr 1
            by_cases h5 : a = 0
            · rw [beq_iff_eq.2 h5]; symm; apply decide_eq_true; exact ⟨h1.1, h1.2, h2.1, h2.2, h3.1, h3.2, h4.1, h4.2, fun _ => h5⟩
            · rw [beq_eq_false_iff_ne.2 h5]; symm; apply decide_eq_false; exact fun h => h5 (h.2.2.2.2.2.2.2.2 rfl)
          | false => rw [if_neg (by simp)]; congr 1; symm; apply decide_eq_true; exact ⟨h1.1, h1.2, h2.1, h2.2, h3.1, h3.2, h4.1, h4.2, fun h => by simp at h⟩
        · rw [if_neg h4]; congr 1; symm; apply decide_eq_false; omega
      · rw [if_neg h3]; congr 1; symm; apply decide_eq_false; omega
    · rw [if_neg h2]; congr 1; symm; apply decide_eq_false; omega
  · rw [if_neg h1]; congr 1; symm; apply decide_eq_false; omega
theorem impl_behind_eq (e : S49) (t m : Int) : impl_behind.f e.f0 e.f1 e.f2 e.f3 e.f4 t m = some (decide (behindP e t m)) := by
  unfold impl_behind.f behindP
  by_cases h1 : e.f0 > t
  · rw [if_pos h1]; congr 1; symm; apply decide_eq_true; omega
  · rw [if_neg h1]
    by_cases h2 : e.f0 = t
    · rw [if_pos h2]; congr 1; apply decide_eq_decide.2; omega
    · rw [if_neg h2]; congr 1; symm; apply decide_eq_false; omega
theorem impl_FdbOk_l0 (l : List S49) (hn : l.length ≤ 1099511627776) (d : Nat) : ∀ (k i : Nat), l.length - i = d → d < k → i ≤ l.length → impl_FdbOk.l0 k l l (l.length : Int) (i : Int) = some (chain (before l i) (l.drop i) && decide (l.length ≤ 12)) := by
  induction d with
  | zero =>
    intro k i hd hk hi
    obtain ⟨k, rfl⟩ : ∃ m, k = m + 1 := ⟨k - 1, by omega⟩
    simp only [impl_FdbOk.l0]
    rw [if_neg (by omega), List.drop_of_length_le (by omega), chain_nil, Bool.true_and]
    congr 1; apply decide_eq_decide.2; omega
  | succ d ih =>
    intro k i hd hk hi
    obtain ⟨k, rfl⟩ : ∃ m, k = m + 1 := ⟨k - 1, by omega⟩
    have hlt : i < l.length := by omega
    have nx := ih k (i + 1) (by omega) (by omega) (by omega)
    rw [show ((i + 1 : Nat) : Int) = (i : Int) + 1 by omega] at nx
    have eb : before l (i + 1) = some (rd_T49 l (i : Int)) := by unfold before; rw [if_neg (by omega)]; congr 2; omega
    rw [eb] at nx
    simp only [impl_FdbOk.l0]
    rw [if_pos (by omega), if_pos (by omega), if_pos (by omega), impl_fentOk_eq, Option.bind_some, rdT_cons hlt, w64 (n := (i : Int) + 1) (by omega) (by omega), nx, chain_eq]
    show (if eOk (rd_T49 l (i : Int)) = true then _ else _) = _
    cases eOk (rd_T49 l (i : Int)) with
    | false => rfl
    | true =>
      rw [if_pos rfl]
      by_cases h0 : i = 0
      · subst h0
        rw [if_neg (by omega)]
        simp [before, linkB]
      · have e2 : before l i = some (rd_T49 l ((i : Int) - 1)) := by unfold before; rw [if_neg h0]
        rw [if_pos (by omega), w64 (n := (i : Int) - 1) (by omega) (by omega), if_pos (by omega), if_pos (by omega), impl_behind_eq, Option.bind_some, e2, show linkB (some (rd_T49 l ((i : Int) - 1))) (rd_T49 l (i : Int)) = decide (aheadP (rd_T49 l ((i : Int) - 1)) (rd_T49 l (i : Int)).f0 (rd_T49 l (i : Int)).f1) from rfl]
        have : (decide (behindP (rd_T49 l (i : Int)) (rd_T49 l ((i : Int) - 1)).f0 (rd_T49 l ((i : Int) - 1)).f1)) = decide (aheadP (rd_T49 l ((i : Int) - 1)) (rd_T49 l (i : Int)).f0 (rd_T49 l (i : Int)).f1) := by
          apply decide_eq_decide.2; unfold behindP aheadP; omega
        rw [this]
        cases decide (aheadP (rd_T49 l ((i : Int) - 1)) (rd_T49 l (i : Int)).f0 (rd_T49 l (i : Int)).f1) <;> simp
theorem impl_FdbOk_eq {l : List S49} (hn : l.length ≤ 1099511627776) {k : Nat} (hk : l.length < k) : impl_FdbOk.f k l = some (fdbOk l) := by
  unfold impl_FdbOk.f
  exact impl_FdbOk_l0 l hn l.length k 0 (by omega) hk (by omega)
theorem spec_l8Ent_eq (t m p a : Int) (s : Bool) : spec_l8Ent.f t m p a s = some (entOk t m p a s) := by
  unfold spec_l8Ent.f entOk
  simp only [spec_l1In_eq, Option.bind_some, decide_eq_true_eq]
  by_cases h1 : 1 ≤ t ∧ t ≤ 99
  · rw [if_pos h1]
    by_cases h2 : 1 ≤ m ∧ m ≤ 9999
    · rw [if_pos h2]
      by_cases h3 : 0 ≤ p ∧ p ≤ 7
      · rw [if_pos h3]
        by_cases h4 : 0 ≤ a ∧ a ≤ 4
        · rw [if_pos h4]
          cases s with
          | true =>
            rw [if_pos rfl]; congr 1
            by_cases h5 : a = 0
            · rw [beq_iff_eq.2 h5]; symm; apply decide_eq_true; exact ⟨h1.1, h1.2, h2.1, h2.2, h3.1, h3.2, h4.1, h4.2, fun _ => h5⟩
            · rw [beq_eq_false_iff_ne.2 h5]; symm; apply decide_eq_false; exact fun h => h5 (h.2.2.2.2.2.2.2.2 rfl)
          | false => rw [if_neg (by simp)]; congr 1; symm; apply decide_eq_true; exact ⟨h1.1, h1.2, h2.1, h2.2, h3.1, h3.2, h4.1, h4.2, fun h => by simp at h⟩
        · rw [if_neg h4]; congr 1; symm; apply decide_eq_false; omega
      · rw [if_neg h3]; congr 1; symm; apply decide_eq_false; omega
    · rw [if_neg h2]; congr 1; symm; apply decide_eq_false; omega
  · rw [if_neg h1]; congr 1; symm; apply decide_eq_false; omega
theorem spec_l8Ahead_eq (e : S49) (t m : Int) : spec_l8Ahead.f e.f0 e.f1 e.f2 e.f3 e.f4 t m = some (decide (aheadP e t m)) := by
  unfold spec_l8Ahead.f aheadP
  by_cases h2 : e.f0 = t
  · rw [if_pos h2]; congr 1; apply decide_eq_decide.2; omega
  · rw [if_neg h2]; congr 1; apply decide_eq_decide.2; omega
theorem spec_FdbOk_l0 (l : List S49) (hn : l.length ≤ 1099511627776) (d : Nat) : ∀ (k i : Nat), l.length - i = d → d < k → i ≤ l.length → spec_FdbOk.l0 k l (i : Int) = some (chain (before l i) (l.drop i) && decide (l.length ≤ 12)) := by
  induction d with
  | zero =>
    intro k i hd hk hi
    obtain ⟨k, rfl⟩ : ∃ m, k = m + 1 := ⟨k - 1, by omega⟩
    simp only [spec_FdbOk.l0]
    rw [if_neg (by omega), List.drop_of_length_le (by omega), chain_nil, Bool.true_and]
    congr 1; apply decide_eq_decide.2; omega
  | succ d ih =>
    intro k i hd hk hi
    obtain ⟨k, rfl⟩ : ∃ m, k = m + 1 := ⟨k - 1, by omega⟩
    have hlt : i < l.length := by omega
    have nx := ih k (i + 1) (by omega) (by omega) (by omega)
    rw [show ((i + 1 : Nat) : Int) = (i : Int) + 1 by omega] at nx
    have eb : before l (i + 1) = some (rd_T49 l (i : Int)) := by unfold before; rw [if_neg (by omega)]; congr 2; omega
    rw [eb] at nx
    simp only [spec_FdbOk.l0]
    rw [if_pos (by omega), if_pos (by omega), spec_l8Ent_eq, Option.bind_some, rdT_cons hlt, w64 (n := (i : Int) + 1) (by omega) (by omega), nx, chain_eq]
    show (if eOk (rd_T49 l (i : Int)) = true then _ else _) = _
    cases eOk (rd_T49 l (i : Int)) with
    | false => rfl
    | true =>
      rw [if_pos rfl]
      by_cases h0 : i = 0
      · subst h0
        rw [if_neg (by omega)]
        simp [before, linkB]
      · have e2 : before l i = some (rd_T49 l ((i : Int) - 1)) := by unfold before; rw [if_neg h0]
        rw [if_pos (by omega), w64 (n := (i : Int) - 1) (by omega) (by omega), if_pos (by omega), if_pos (by omega), spec_l8Ahead_eq, Option.bind_some, e2, show linkB (some (rd_T49 l ((i : Int) - 1))) (rd_T49 l (i : Int)) = decide (aheadP (rd_T49 l ((i : Int) - 1)) (rd_T49 l (i : Int)).f0 (rd_T49 l (i : Int)).f1) from rfl]
        cases decide (aheadP (rd_T49 l ((i : Int) - 1)) (rd_T49 l (i : Int)).f0 (rd_T49 l (i : Int)).f1) <;> simp
theorem spec_FdbOk_eq {l : List S49} (hn : l.length ≤ 1099511627776) {k : Nat} (hk : l.length < k) : spec_FdbOk.f k l = some (fdbOk l) := by
  unfold spec_FdbOk.f
  exact spec_FdbOk_l0 l hn l.length k 0 (by omega) hk (by omega)
theorem spec_l8At_l0 (l : List S49) (t m : Int) (hn : l.length ≤ 1099511627776) (d : Nat) : ∀ (k i : Nat), l.length - i = d → d < k → i ≤ l.length → spec_l8At.l0 k l t m (i : Int) = some (entFrom t m (l.drop i) (i : Int)) := by
  induction d with
  | zero =>
    intro k i hd hk hi
    obtain ⟨k, rfl⟩ : ∃ m, k = m + 1 := ⟨k - 1, by omega⟩
    simp only [spec_l8At.l0]
    rw [if_neg (by omega), List.drop_of_length_le (by omega)]; rfl
  | succ d ih =>
    intro k i hd hk hi
    obtain ⟨k, rfl⟩ : ∃ m, k = m + 1 := ⟨k - 1, by omega⟩
    have hlt : i < l.length := by omega
    have nx := ih k (i + 1) (by omega) (by omega) (by omega)
    rw [show ((i + 1 : Nat) : Int) = (i : Int) + 1 by omega] at nx
    simp only [spec_l8At.l0]
    rw [if_pos (by omega), if_pos (by omega), rdT_cons hlt, w64 (n := (i : Int) + 1) (by omega) (by omega), nx, entFrom_eq]
    by_cases h1 : (rd_T49 l (i : Int)).f0 = t
    · rw [if_pos h1]
      by_cases h2 : (rd_T49 l (i : Int)).f1 = m
      · rw [if_pos h2, if_pos ⟨h1, h2⟩]
      · rw [if_neg h2, if_neg (fun h => h2 h.2)]
    · rw [if_neg h1, if_neg (fun h => h1 h.1)]
theorem spec_l8At_eq {l : List S49} (t m : Int) (hn : l.length ≤ 1099511627776) {k : Nat} (hk : l.length < k) : spec_l8At.f k l t m = some (ent l t m) := by
  unfold spec_l8At.f
  exact spec_l8At_l0 l t m hn l.length k 0 (by omega) hk (by omega)
theorem impl_entAt_l0 (l : List S49) (t m : Int) (hn : l.length ≤ 1099511627776) (d : Nat) : ∀ (k i : Nat), l.length - i = d → d < k → i ≤ l.length → impl_entAt.l0 k t m l (l.length : Int) (i : Int) = some (entFrom t m (l.drop i) (i : Int)) := by
  induction d with
  | zero =>
    intro k i hd hk hi
    obtain ⟨k, rfl⟩ : ∃ m, k = m + 1 := ⟨k - 1, by omega⟩
    simp only [impl_entAt.l0]
    rw [if_neg (by omega), List.drop_of_length_le (by omega)]; rfl
  | succ d ih =>
    intro k i hd hk hi
    obtain ⟨k, rfl⟩ : ∃ m, k = m + 1 := ⟨k - 1, by omega⟩
    have hlt : i < l.length := by omega
    have nx := ih k (i + 1) (by omega) (by omega) (by omega)
    rw [show ((i + 1 : Nat) : Int) = (i : Int) + 1 by omega] at nx
    simp only [impl_entAt.l0]
    rw [if_pos (by omega), if_pos (by omega), if_pos (by omega), rdT_cons hlt, w64 (n := (i : Int) + 1) (by omega) (by omega), nx, entFrom_eq]
    by_cases h1 : (rd_T49 l (i : Int)).f0 = t
    · rw [if_pos h1]
      by_cases h2 : (rd_T49 l (i : Int)).f1 = m
      · rw [if_pos h2, if_pos ⟨h1, h2⟩]
      · rw [if_neg h2, if_neg (fun h => h2 h.2)]
    · rw [if_neg h1, if_neg (fun h => h1 h.1)]
theorem impl_entAt_eq {l : List S49} (t m : Int) (hn : l.length ≤ 1099511627776) {k : Nat} (hk : l.length < k) : impl_entAt.f k l t m = some (ent l t m) := by
  unfold impl_entAt.f
  exact impl_entAt_l0 l t m hn l.length k 0 (by omega) hk (by omega)
theorem spec_AgeAll_l0 (l : List S49) (hn : l.length ≤ 1099511627776) (d : Nat) : ∀ (k i : Nat) (acc : List S49), l.length - i = d → d < k → i ≤ l.length → acc.length ≤ i → spec_AgeAll.l0 k l acc (i : Int) = some (acc ++ ageL (l.drop i)) := by
  induction d with
  | zero =>
    intro k i acc hd hk hi ha
    obtain ⟨k, rfl⟩ : ∃ m, k = m + 1 := ⟨k - 1, by omega⟩
    simp only [spec_AgeAll.l0]
    rw [if_neg (by omega), List.drop_of_length_le (by omega)]; simp [ageL]
  | succ d ih =>
    intro k i acc hd hk hi ha
    obtain ⟨k, rfl⟩ : ∃ m, k = m + 1 := ⟨k - 1, by omega⟩
    have hlt : i < l.length := by omega
    simp only [spec_AgeAll.l0]
    rw [if_pos (by omega), if_pos (by omega), rdT_cons hlt, w64 (n := (i : Int) + 1) (by omega) (by omega)]
    have nx := fun acc h => ih k (i + 1) acc (by omega) (by omega) (by omega) h
    rw [show ((i + 1 : Nat) : Int) = (i : Int) + 1 by omega] at nx
    generalize rd_T49 l (i : Int) = e
    rw [ageL_cons]
    by_cases h1 : e.f4 = true
    · rw [if_pos h1, if_pos (by omega), nx _ (by simp; omega), if_pos h1]; simp
    · rw [if_neg h1, if_neg h1]
      by_cases h2 : e.f3 < 4
      · rw [if_pos h2, if_pos (by omega), nx _ (by simp; omega), if_pos h2]; simp
      · rw [if_neg h2, nx _ (by omega), if_neg h2]
theorem spec_AgeAll_eq {l : List S49} (hn : l.length ≤ 1099511627776) {k : Nat} (hk : l.length < k) : spec_AgeAll.f k l = some (ageL l) := by
  unfold spec_AgeAll.f
  have := spec_AgeAll_l0 l hn l.length k 0 [] (by omega) hk (by omega) (by simp)
  simpa using this
theorem impl_FlushPort_l0 (l : List S49) (p : Int) (hn : l.length ≤ 1099511627776) (d : Nat) : ∀ (k i : Nat) (acc : List S49), l.length - i = d → d < k → i ≤ l.length → acc.length ≤ i → impl_FlushPort.l0 k p acc l (l.length : Int) (i : Int) = some (acc ++ flushL (l.drop i) p) := by
  induction d with
  | zero =>
    intro k i acc hd hk hi ha
    obtain ⟨k, rfl⟩ : ∃ m, k = m + 1 := ⟨k - 1, by omega⟩
    simp only [impl_FlushPort.l0]
    rw [if_neg (by omega), List.drop_of_length_le (by omega)]; simp [flushL]
  | succ d ih =>
    intro k i acc hd hk hi ha
    obtain ⟨k, rfl⟩ : ∃ m, k = m + 1 := ⟨k - 1, by omega⟩
    have hlt : i < l.length := by omega
    simp only [impl_FlushPort.l0]
    rw [if_pos (by omega), if_pos (by omega), if_pos (by omega), rdT_cons hlt, w64 (n := (i : Int) + 1) (by omega) (by omega)]
    have nx := fun acc h => ih k (i + 1) acc (by omega) (by omega) (by omega) h
    rw [show ((i + 1 : Nat) : Int) = (i : Int) + 1 by omega] at nx
    generalize rd_T49 l (i : Int) = e
    rw [flushL_cons]
    by_cases h1 : e.f4 = true
    · rw [if_pos h1, if_pos (by omega), nx _ (by simp; omega), if_pos h1]; simp
    · rw [if_neg h1, if_neg h1]
      by_cases h2 : e.f2 = p
      · rw [if_pos h2, nx _ (by omega), if_pos h2]
      · rw [if_neg h2, if_pos (by omega), nx _ (by simp; omega), if_neg h2]; simp
theorem impl_FlushPort_eq {l : List S49} (p : Int) (hn : l.length ≤ 1099511627776) {k : Nat} (hk : l.length < k) : impl_FlushPort.f k l p = some (flushL l p) := by
  unfold impl_FlushPort.f
  have := impl_FlushPort_l0 l p hn l.length k 0 [] (by omega) hk (by omega) (by simp)
  simpa using this
theorem spec_FlushPort_l0 (l : List S49) (p : Int) (hn : l.length ≤ 1099511627776) (d : Nat) : ∀ (k i : Nat) (acc : List S49), l.length - i = d → d < k → i ≤ l.length → acc.length ≤ i → spec_FlushPort.l0 k l p acc (i : Int) = some (acc ++ flushL (l.drop i) p) := by
  induction d with
  | zero =>
    intro k i acc hd hk hi ha
    obtain ⟨k, rfl⟩ : ∃ m, k = m + 1 := ⟨k - 1, by omega⟩
    simp only [spec_FlushPort.l0]
    rw [if_neg (by omega), List.drop_of_length_le (by omega)]; simp [flushL]
  | succ d ih =>
    intro k i acc hd hk hi ha
    obtain ⟨k, rfl⟩ : ∃ m, k = m + 1 := ⟨k - 1, by omega⟩
    have hlt : i < l.length := by omega
    simp only [spec_FlushPort.l0]
    rw [if_pos (by omega), if_pos (by omega), rdT_cons hlt, w64 (n := (i : Int) + 1) (by omega) (by omega)]
    have nx := fun acc h => ih k (i + 1) acc (by omega) (by omega) (by omega) h
    rw [show ((i + 1 : Nat) : Int) = (i : Int) + 1 by omega] at nx
    have hi2 : (i : Int) < (l.length : Int) := by omega
    generalize rd_T49 l (i : Int) = e
    rw [flushL_cons]
    by_cases h1 : e.f4 = true
    · rw [if_pos h1, if_pos (by omega), nx _ (by simp; omega), if_pos h1]; simp
    · rw [if_neg h1, if_neg h1]
      by_cases h2 : e.f2 = p
      · rw [if_pos h2, nx _ (by omega), if_pos h2]
      · rw [if_neg h2, if_pos (by omega), nx _ (by simp; omega), if_neg h2]; simp
theorem spec_FlushPort_eq {l : List S49} (p : Int) (hn : l.length ≤ 1099511627776) {k : Nat} (hk : l.length < k) : spec_FlushPort.f k l p = some (flushL l p) := by
  unfold spec_FlushPort.f
  have := spec_FlushPort_l0 l p hn l.length k 0 [] (by omega) hk (by omega) (by simp)
  simpa using this
theorem sameFdb_l0 (l : List S49) (hn : l.length ≤ 1099511627776) (d : Nat) : ∀ (k i : Nat), l.length - i = d → d < k → laws_sameFdb.l0 k l l (i : Int) = some true := by
  induction d with
  | zero =>
    intro k i hd hk
    obtain ⟨k, rfl⟩ : ∃ m, k = m + 1 := ⟨k - 1, by omega⟩
    simp only [laws_sameFdb.l0]
    rw [if_neg (by omega)]
  | succ d ih =>
    intro k i hd hk
    obtain ⟨k, rfl⟩ : ∃ m, k = m + 1 := ⟨k - 1, by omega⟩
    have nx := ih k (i + 1) (by omega) (by omega)
    rw [show ((i + 1 : Nat) : Int) = (i : Int) + 1 by omega] at nx
    simp only [laws_sameFdb.l0]
    rw [if_pos (by omega), if_pos (by omega), if_pos (by omega), w64 (by omega) (by omega), nx, if_neg (by simp)]
theorem sameFdb_self {l : List S49} (hn : l.length ≤ 1099511627776) {k : Nat} (hk : l.length < k) : laws_sameFdb.f k l l = some true := by
  unfold laws_sameFdb.f
  rw [if_pos rfl]
  exact sameFdb_l0 l hn l.length k 0 (by omega) hk
theorem aheadP_trans {x y : S49} {t m : Int} (h : aheadP x y.f0 y.f1) (h2 : aheadP y t m) : aheadP x t m := by unfold aheadP at *; omega
theorem chain_ahead {q : S49} {l : List S49} (h : chain (some q) l = true) : ∀ x ∈ l, aheadP q x.f0 x.f1 := by
  induction l generalizing q with
  | nil => intro x hx; simp at hx
  | cons e l ih =>
    simp only [chain, linkB, Bool.and_eq_true, decide_eq_true_eq] at h
    intro x hx
    rcases List.mem_cons.1 hx with rfl | hx
    · exact h.2.1
    · exact aheadP_trans h.2.1 (ih h.2.2 x hx)
theorem chain_key {q e : S49} {l : List S49} (h : chain (some q) l = true) (h0 : e.f0 = q.f0) (h1 : e.f1 = q.f1) : chain (some e) l = true := by
  cases l with
  | nil => rfl
  | cons x l =>
    simp only [chain, linkB, Bool.and_eq_true, decide_eq_true_eq] at h ⊢
    refine ⟨h.1, ?_, h.2.2⟩
    unfold aheadP at *; omega
theorem chain_from {p : Option S49} {e : S49} {l : List S49} (h : chain (some e) l = true) (hp : ∀ q, p = some q → aheadP q e.f0 e.f1) : chain p l = true := by
  cases l with
  | nil => rfl
  | cons x l =>
    simp only [chain, linkB, Bool.and_eq_true, decide_eq_true_eq] at h ⊢
    refine ⟨h.1, ?_, h.2.2⟩
    cases p with
    | none => trivial
    | some q => simpa using aheadP_trans (hp q rfl) h.2.1
theorem chain_cons {p : Option S49} {e : S49} {l : List S49} : chain p (e :: l) = true ↔ eOk e = true ∧ (∀ q, p = some q → aheadP q e.f0 e.f1) ∧ chain (some e) l = true := by
  rw [chain_eq, Bool.and_eq_true, Bool.and_eq_true]
  cases p with
  | none => simp [linkB]
  | some q => simp [linkB]
/-- What keeps keys and is right keeps a chain. -/
theorem chain_map {f : S49 → Option S49} (hf : ∀ e x, eOk e = true → f e = some x → eOk x = true ∧ x.f0 = e.f0 ∧ x.f1 = e.f1) {p : Option S49} {l : List S49} (h : chain p l = true) : chain p (l.filterMap f) = true := by
  induction l generalizing p with
  | nil => rfl
  | cons e l ih =>
    obtain ⟨h1, h2, h3⟩ := chain_cons.1 h
    rw [List.filterMap_cons]
    cases he : f e with
    | none => exact ih (chain_from h3 h2)
    | some x =>
      obtain ⟨g1, g2, g3⟩ := hf e x h1 he
      refine chain_cons.2 ⟨g1, fun q hq => by rw [g2, g3]; exact h2 q hq, ih (chain_key h3 g2 g3)⟩
theorem ageE_ok {e x : S49} (h : eOk e = true) (hx : ageE e = some x) : eOk x = true ∧ x.f0 = e.f0 ∧ x.f1 = e.f1 := by
  unfold ageE at hx
  split at hx
  · simp only [Option.some.injEq] at hx; subst hx; exact ⟨h, rfl, rfl⟩
  · rename_i h4
    split at hx
    · rename_i h3
      simp only [Option.some.injEq] at hx; subst hx
      refine ⟨?_, rfl, rfl⟩
      simp only [eOk, entOk, decide_eq_true_eq] at h ⊢
      rw [w64 (by omega) (by omega)]
      exact ⟨h.1, h.2.1, h.2.2.1, h.2.2.2.1, h.2.2.2.2.1, h.2.2.2.2.2.1, by omega, by omega, fun h => absurd h h4⟩
    · simp at hx
theorem fdbOk_iff {l : List S49} : fdbOk l = true ↔ chain none l = true ∧ l.length ≤ 12 := by simp [fdbOk]
theorem age_ok {l : List S49} (h : fdbOk l = true) : fdbOk (ageL l) = true := by
  rw [fdbOk_iff] at *
  exact ⟨chain_map (fun e x h1 h2 => ageE_ok h1 h2) h.1, Nat.le_trans (List.length_filterMap_le _ _) h.2⟩
theorem flush_ok {l : List S49} (p : Int) (h : fdbOk l = true) : fdbOk (flushL l p) = true := by
  rw [fdbOk_iff] at *
  refine ⟨?_, Nat.le_trans (List.length_filter_le _ _) h.2⟩
  have : flushL l p = l.filterMap (Option.guard fun e => e.f4 || !(e.f2 == p)) := by unfold flushL; rw [List.filterMap_eq_filter]
  rw [this]
  refine chain_map (fun e x h1 h2 => ?_) h.1
  simp only [Option.guard_eq_some_iff] at h2
  obtain ⟨rfl, _⟩ := h2
  exact ⟨h1, rfl, rfl⟩
theorem putGo_true {e : S49} {l : List S49} (h : ∀ x ∈ l, ¬ (x.f0 = e.f0 ∧ x.f1 = e.f1)) : putGo e true l = l := by
  induction l with
  | nil => rfl
  | cons x l ih =>
    simp only [putGo]
    rw [if_neg (h x (by simp)), ih (fun y hy => h y (List.mem_cons_of_mem _ hy))]
/-- Ahead of the first that is behind. -/
def insB (e : S49) : List S49 → List S49
  | [] => [e]
  | x :: l => if behindP x e.f0 e.f1 then e :: x :: l else x :: insB e l
theorem insB_eq (e x : S49) (l : List S49) : insB e (x :: l) = if behindP x e.f0 e.f1 then e :: x :: l else x :: insB e l := rfl
theorem entFrom_none {t m : Int} {l : List S49} : ∀ {i : Int}, 0 ≤ i → entFrom t m l i = -1 → ∀ x ∈ l, ¬ (x.f0 = t ∧ x.f1 = m) := by
  induction l with
  | nil => intro i _ _ x hx; simp at hx
  | cons y l ih =>
    intro i hi h x hx
    unfold entFrom at h
    split at h
    · omega
    · rename_i hne
      rcases List.mem_cons.1 hx with rfl | hx
      · exact hne
      · exact ih (by omega) h x hx
theorem entFrom_some {t m : Int} {l : List S49} : ∀ {i : Int}, 0 ≤ i → entFrom t m l i ≠ -1 → ∃ x ∈ l, x.f0 = t ∧ x.f1 = m := by
  induction l with
  | nil => intro i _ h; exact absurd rfl h
  | cons y l ih =>
    intro i hi h
    unfold entFrom at h
    split at h
    · rename_i he; exact ⟨y, by simp, he⟩
    · obtain ⟨x, hx, he⟩ := ih (by omega) h
      exact ⟨x, List.mem_cons_of_mem _ hx, he⟩
theorem insB_put {e : S49} {p : Option S49} {l : List S49} (h : chain p l = true) (hn : ∀ x ∈ l, ¬ (x.f0 = e.f0 ∧ x.f1 = e.f1)) : insB e l = putGo e false l := by
  induction l generalizing p with
  | nil => rfl
  | cons x l ih =>
    obtain ⟨_, _, h3⟩ := chain_cons.1 h
    have hx := hn x (by simp)
    unfold insB putGo
    by_cases hb : behindP x e.f0 e.f1
    · rw [if_pos hb, if_neg (by unfold aheadP behindP at *; omega), if_neg hx, putGo_true (fun y hy => hn y (List.mem_cons_of_mem _ hy))]
    · rw [if_neg hb, if_pos (by unfold aheadP behindP at *; omega), ih h3 (fun y hy => hn y (List.mem_cons_of_mem _ hy))]
theorem set_put {e : S49} {p : Option S49} {l : List S49} (h : chain p l = true) : ∀ i : Int, 0 ≤ i → entFrom e.f0 e.f1 l i ≠ -1 → l.set (entFrom e.f0 e.f1 l i - i).toNat e = putGo e false l := by
  induction l generalizing p with
  | nil => intro i _ h; exact absurd rfl h
  | cons x l ih =>
    intro i hi hne
    obtain ⟨_, _, h3⟩ := chain_cons.1 h
    have ha := chain_ahead h3
    unfold entFrom at hne ⊢
    unfold putGo
    by_cases hs : x.f0 = e.f0 ∧ x.f1 = e.f1
    · rw [if_pos hs, if_neg (by unfold aheadP; omega), if_pos hs, putGo_true (fun y hy => by have := ha y hy; unfold aheadP at this; omega), Int.sub_self]
      rfl
    · rw [if_neg hs] at hne ⊢
      obtain ⟨y, hy, hk⟩ := entFrom_some (by omega) hne
      have hya := ha y hy
      rw [if_pos (by unfold aheadP at *; omega), ← ih h3 (i + 1) (by omega) hne]
      have := entFrom_ge e.f0 e.f1 l (i + 1) (by omega)
      rw [show (entFrom e.f0 e.f1 l (i + 1) - i).toNat = (entFrom e.f0 e.f1 l (i + 1) - (i + 1)).toNat + 1 by omega, List.set_cons_succ]
theorem put_chain {e : S49} (he : eOk e = true) {p : Option S49} {l : List S49} (h : chain p l = true) (hp : ∀ q, p = some q → aheadP q e.f0 e.f1) : chain p (putGo e false l) = true := by
  induction l generalizing p with
  | nil => exact chain_cons.2 ⟨he, hp, rfl⟩
  | cons x l ih =>
    obtain ⟨h1, h2, h3⟩ := chain_cons.1 h
    have ha := chain_ahead h3
    unfold putGo
    by_cases hx : aheadP x e.f0 e.f1
    · rw [if_pos hx]
      exact chain_cons.2 ⟨h1, h2, ih h3 (fun q hq => by cases hq; exact hx)⟩
    · rw [if_neg hx]
      refine chain_cons.2 ⟨he, hp, ?_⟩
      by_cases hs : x.f0 = e.f0 ∧ x.f1 = e.f1
      · rw [if_pos hs, putGo_true (fun y hy => by have := ha y hy; unfold aheadP at this; omega)]
        exact chain_key h3 hs.1.symm hs.2.symm
      · rw [if_neg hs, putGo_true (fun y hy => by have := ha y hy; unfold aheadP at *; omega)]
        exact chain_cons.2 ⟨h1, fun q hq => by cases hq; unfold aheadP at *; omega, h3⟩
theorem putGo_len (e : S49) (l : List S49) : (∀ b, (putGo e b l).length ≤ l.length + 1) ∧ (putGo e true l).length ≤ l.length := by
  induction l with
  | nil => exact ⟨fun b => by cases b <;> simp [putGo], by simp [putGo]⟩
  | cons x l ih =>
    have h2 : (putGo e true (x :: l)).length ≤ (x :: l).length := by
      simp only [putGo]; split
      · have := ih.2; simp; omega
      · have := ih.2; simp; omega
    refine ⟨fun b => ?_, h2⟩
    cases b with
    | true => simp at h2 ⊢; omega
    | false =>
      simp only [putGo]
      split
      · have := ih.1 false; simp; omega
      · split
        · have := ih.2; simp; omega
        · have := ih.2; simp; omega
/-- What Learn leaves. -/
def learnL (l : List S49) (t m p : Int) : List S49 :=
  if fdbOk l = true ∧ entOk t m p 0 false = true then
    if 0 ≤ ent l t m then (if (rd_T49 l (ent l t m)).f4 = true then l else putL l ⟨t, m, p, 0, false⟩) else if 12 ≤ l.length then l else putL l ⟨t, m, p, 0, false⟩
  else l
def setL (l : List S49) (t m p : Int) : List S49 × Bool :=
  if fdbOk l = true ∧ entOk t m p 0 true = true then
    if ent l t m < 0 ∧ 12 ≤ l.length then (l, false) else (putL l ⟨t, m, p, 0, true⟩, true)
  else (l, false)
theorem put_ok {l : List S49} {e : S49} (h : fdbOk l = true) (he : eOk e = true) (hr : 0 ≤ ent l e.f0 e.f1 ∨ l.length < 12) : fdbOk (putL l e) = true := by
  rw [fdbOk_iff] at *
  refine ⟨put_chain he h.1 (fun q hq => by cases hq), ?_⟩
  rcases hr with hr | hr
  · have := set_put (e := e) h.1 0 (by omega) (by unfold ent at hr; omega)
    unfold putL
    rw [← this, List.length_set]; exact h.2
  · have := (putGo_len e l).1 false
    unfold putL; omega
theorem learn_ok {l : List S49} (t m p : Int) (h : fdbOk l = true) : fdbOk (learnL l t m p) = true := by
  unfold learnL
  split
  · rename_i h1
    split
    · rename_i h2
      split
      · exact h
      · exact put_ok h h1.2 (.inl h2)
    · split
      · exact h
      · exact put_ok h h1.2 (.inr (by omega))
  · exact h
theorem setStatic_ok {l : List S49} (t m p : Int) (h : fdbOk l = true) : fdbOk (setL l t m p).1 = true := by
  unfold setL
  split
  · rename_i h1
    split
    · exact h
    · rename_i h2
      refine put_ok h h1.2 ?_
      by_cases h3 : 0 ≤ ent l t m
      · exact .inl h3
      · exact .inr (by omega)
  · exact h
theorem learn_len (l : List S49) (t m p : Int) : (learnL l t m p).length ≤ l.length + 1 := by
  have := (putGo_len ⟨t, m, p, 0, false⟩ l).1 false
  unfold learnL putL
  repeat' split
  all_goals omega
theorem setL_len (l : List S49) (t m p : Int) : (setL l t m p).1.length ≤ l.length + 1 := by
  have := (putGo_len ⟨t, m, p, 0, true⟩ l).1 false
  unfold setL putL
  repeat' split
  all_goals (simp only; omega)
theorem spec_l8Put_l0 (l : List S49) (e : S49) (hn : l.length ≤ 1099511627776) (d : Nat) : ∀ (k i : Nat) (acc : List S49) (done : Bool), l.length - i = d → 2 * d + 1 ≤ k → i ≤ l.length → acc.length ≤ 2 * i → spec_l8Put.l0 k l acc done (i : Int) e.f0 e.f1 e.f2 e.f3 e.f4 = some (acc ++ putGo e done (l.drop i)) := by
  induction d with
  | zero =>
    intro k i acc done hd hk hi ha
    obtain ⟨k, rfl⟩ : ∃ m, k = m + 1 := ⟨k - 1, by omega⟩
    simp only [spec_l8Put.l0]
    rw [if_neg (by omega), List.drop_of_length_le (by omega)]
    cases done with
    | true => simp [putGo]
    | false => rw [if_neg (by simp), if_pos (by omega)]; simp [putGo]
  | succ d ih =>
    intro k i acc done hd hk hi ha
    obtain ⟨k, rfl⟩ : ∃ m, k = m + 2 := ⟨k - 2, by omega⟩
    have hlt : i < l.length := by omega
    have nx := fun acc done h => ih k (i + 1) acc done (by omega) (by omega) (by omega) h
    rw [show ((i + 1 : Nat) : Int) = (i : Int) + 1 by omega] at nx
    have hi1 : (i : Int) < (l.length : Int) := by omega
    have hi0 : 0 ≤ (i : Int) := by omega
    simp only [spec_l8Put.l0]
    rw [if_pos hi1, rdT_cons hlt]
    have jF : spec_l8Put.j1 (k + 1) l acc done (i : Int) false e.f0 e.f1 e.f2 e.f3 e.f4 = some (acc ++ (if (rd_T49 l (i : Int)).f0 = e.f0 ∧ (rd_T49 l (i : Int)).f1 = e.f1 then putGo e done (l.drop (i + 1)) else rd_T49 l (i : Int) :: putGo e done (l.drop (i + 1)))) := by
      simp only [spec_l8Put.j1]
      rw [if_neg (by simp), if_pos hi0, if_pos hi1, w64 (n := (i : Int) + 1) (by omega) (by omega)]
      by_cases h1 : (rd_T49 l (i : Int)).f0 = e.f0
      · rw [if_pos h1]
        by_cases h2 : (rd_T49 l (i : Int)).f1 = e.f1
        · rw [if_pos h2, nx _ _ (by omega), if_pos ⟨h1, h2⟩]
        · rw [if_neg h2, if_pos (by omega), nx _ _ (by simp; omega), if_neg (fun h => h2 h.2)]; simp
      · rw [if_neg h1, if_pos (by omega), nx _ _ (by simp; omega), if_neg (fun h => h1 h.1)]; simp
    have jT : spec_l8Put.j1 (k + 1) l acc false (i : Int) true e.f0 e.f1 e.f2 e.f3 e.f4 = some (acc ++ e :: (if (rd_T49 l (i : Int)).f0 = e.f0 ∧ (rd_T49 l (i : Int)).f1 = e.f1 then putGo e true (l.drop (i + 1)) else rd_T49 l (i : Int) :: putGo e true (l.drop (i + 1)))) := by
      simp only [spec_l8Put.j1]
      rw [if_pos trivial, if_pos (by omega), Option.bind_some, if_pos hi0, if_pos hi1, w64 (n := (i : Int) + 1) (by omega) (by omega)]
      by_cases h1 : (rd_T49 l (i : Int)).f0 = e.f0
      · rw [if_pos h1]
        by_cases h2 : (rd_T49 l (i : Int)).f1 = e.f1
        · rw [if_pos h2, nx _ _ (by simp; omega), if_pos ⟨h1, h2⟩]; simp
        · rw [if_neg h2, if_pos (by simp; omega), nx _ _ (by simp; omega), if_neg (fun h => h2 h.2)]; simp
      · rw [if_neg h1, if_pos (by simp; omega), nx _ _ (by simp; omega), if_neg (fun h => h1 h.1)]; simp
    cases done with
    | true => rw [if_pos rfl, jF]; simp only [putGo]
    | false =>
      rw [if_neg (by simp), if_pos hi0, spec_l8Ahead_eq, Option.bind_some]
      by_cases hx : aheadP (rd_T49 l (i : Int)) e.f0 e.f1
      · rw [decide_eq_true hx]
        show spec_l8Put.j1 (k + 1) l acc false (i : Int) false e.f0 e.f1 e.f2 e.f3 e.f4 = _
        rw [jF, if_neg (aheadP_not_same hx)]
        simp only [putGo]
        rw [if_pos hx]
      · rw [decide_eq_false hx]
        show spec_l8Put.j1 (k + 1) l acc false (i : Int) true e.f0 e.f1 e.f2 e.f3 e.f4 = _
        rw [jT]
        simp only [putGo]
        rw [if_neg hx]
theorem spec_l8Put_eq {l : List S49} (t m p a : Int) (s : Bool) (hn : l.length ≤ 1099511627776) {k : Nat} (hk : 2 * l.length + 1 ≤ k) : spec_l8Put.f k l t m p a s = some (putL l ⟨t, m, p, a, s⟩) := by
  unfold spec_l8Put.f
  have := spec_l8Put_l0 l ⟨t, m, p, a, s⟩ hn l.length k 0 [] false (by omega) hk (by omega) (by simp)
  simpa [putL] using this
theorem spec_l8Copy_eq {l : List S49} (hn : l.length ≤ 1099511627776) : spec_l8Copy.f l = some l := by
  unfold spec_l8Copy.f
  rw [Option.bind_some, if_pos (by simp only [List.length_nil]; omega), List.nil_append]
theorem impl_copyFdb_eq {l : List S49} (hn : l.length ≤ 1099511627776) : impl_copyFdb.f l = some l := by
  unfold impl_copyFdb.f
  rw [if_pos (by simp only [List.length_nil]; omega), List.nil_append]
theorem impl_put_l0 (l : List S49) (e : S49) (hn : l.length ≤ 1099511627776) (d : Nat) : ∀ (k i : Nat), l.length - i = d → d + 1 ≤ k → i ≤ l.length → impl_put.l0 k l (i : Int) e.f0 e.f1 e.f2 e.f3 e.f4 = some (l.take i ++ insB e (l.drop i), true) := by
  induction d with
  | zero =>
    intro k i hd hk hi
    obtain ⟨k, rfl⟩ : ∃ m, k = m + 1 := ⟨k - 1, by omega⟩
    simp only [impl_put.l0]
    rw [if_neg (by omega), if_pos (by omega), if_pos (by omega), Int.toNat_natCast, impl_copyFdb_eq (by rw [List.length_take]; omega), Option.bind_some, Option.bind_some, if_pos (by simp only [List.length_take, List.length_cons, List.length_nil]; omega), Option.bind_some, Option.bind_some, if_pos (by simp only [List.length_append, List.length_take, List.length_drop, List.length_cons, List.length_nil]; omega), List.drop_of_length_le (by omega)]
    simp [insB]
  | succ d ih =>
    intro k i hd hk hi
    obtain ⟨k, rfl⟩ : ∃ m, k = m + 1 := ⟨k - 1, by omega⟩
    have hlt : i < l.length := by omega
    have nx := ih k (i + 1) (by omega) (by omega) (by omega)
    rw [show ((i + 1 : Nat) : Int) = (i : Int) + 1 by omega] at nx
    simp only [impl_put.l0]
    rw [if_pos (by omega), if_pos (by omega), impl_behind_eq, Option.bind_some, w64 (n := (i : Int) + 1) (by omega) (by omega), nx]
    by_cases hb : behindP (rd_T49 l (i : Int)) e.f0 e.f1
    · rw [decide_eq_true hb, if_pos rfl, if_pos (by omega), Int.toNat_natCast, impl_copyFdb_eq (by rw [List.length_take]; omega), Option.bind_some, Option.bind_some, if_pos (by simp only [List.length_take, List.length_cons, List.length_nil]; omega), Option.bind_some, Option.bind_some, if_pos (by simp only [List.length_append, List.length_take, List.length_drop, List.length_cons, List.length_nil]; omega)]
      rw [rdT_cons hlt]
      unfold insB
      rw [if_pos hb]
      simp
    · rw [decide_eq_false hb, if_neg (by simp)]
      have e1 : l.take (i + 1) = l.take i ++ [rd_T49 l (i : Int)] := by
        rw [List.take_add_one, List.getElem?_eq_getElem hlt]
        unfold rd_T49
        rw [Int.toNat_natCast, List.getD_eq_getElem?_getD, List.getElem?_eq_getElem hlt]; rfl
      rw [e1, rdT_cons hlt]
      congr 2
      show _ = l.take i ++ insB e (rd_T49 l (i : Int) :: l.drop (i + 1))
      rw [insB_eq, if_neg hb, List.append_assoc]
      rfl
theorem impl_put_eq {l : List S49} (t m p a : Int) (s : Bool) (hn : l.length ≤ 1099511627776) {k : Nat} (hk : l.length + 1 ≤ k) (hc : chain none l = true) : impl_put.f k l t m p a s = some (if ent l t m < 0 ∧ 12 ≤ l.length then (l, false) else (putL l ⟨t, m, p, a, s⟩, true)) := by
  unfold impl_put.f
  rw [impl_copyFdb_eq hn, Option.bind_some, impl_entAt_eq t m hn (by omega), Option.bind_some]
  have hr := ent_range l t m
  by_cases h : ent l t m ≥ 0
  · rw [if_pos h, if_pos h, if_pos (by omega), if_neg (by omega)]
    have := set_put (e := ⟨t, m, p, a, s⟩) hc 0 (by omega) (by show ent l t m ≠ -1; omega)
    rw [Int.sub_zero] at this
    unfold putL
    rw [← this]; rfl
  · rw [if_neg h]
    by_cases h2 : (l.length : Int) ≥ 12
    · rw [if_pos h2, if_pos (by omega)]
    · rw [if_neg h2, if_neg (by omega)]
      have e1 := impl_put_l0 l ⟨t, m, p, a, s⟩ hn l.length k 0 (by omega) hk (by omega)
      have e2 := insB_put (e := ⟨t, m, p, a, s⟩) hc (entFrom_none (i := 0) (by omega) (by show ent l t m = -1; omega))
      simp only [List.take_zero, List.nil_append, List.drop_zero] at e1
      unfold putL
      rw [← e2]; exact e1
theorem impl_Learn_eq {l : List S49} (t m p : Int) (hn : l.length ≤ 1099511627776) {k : Nat} (hk : l.length + 2 ≤ k) : impl_Learn.f k l t m p = some (learnL l t m p) := by
  obtain ⟨k, rfl⟩ : ∃ j, k = j + 1 := ⟨k - 1, by omega⟩
  have hr := ent_range l t m
  unfold impl_Learn.f learnL
  rw [impl_entAt_eq t m hn (by omega), Option.bind_some, impl_FdbOk_eq hn (by omega), Option.bind_some]
  have copy : impl_Learn.j0 (k + 1) l true t m p 0 false = some l := by
    simp only [impl_Learn.j0]; rw [if_pos trivial, impl_copyFdb_eq hn]; rfl
  cases h1 : fdbOk l with
  | false => rw [if_neg (by simp), if_neg (by simp)]; exact copy
  | true =>
    rw [if_pos rfl, impl_fentOk_eq, Option.bind_some]
    cases h2 : entOk t m p 0 false with
    | false => rw [if_neg (by simp), if_neg (by simp)]; exact copy
    | true =>
      have put : impl_Learn.j0 (k + 1) l false t m p 0 false = some (if ent l t m < 0 ∧ 12 ≤ l.length then l else putL l ⟨t, m, p, 0, false⟩) := by
        simp only [impl_Learn.j0]
        rw [if_neg (by simp), impl_put_eq t m p 0 false hn (by omega) (fdbOk_iff.1 h1).1, Option.bind_some]
        by_cases h : ent l t m < 0 ∧ 12 ≤ l.length
        · rw [if_pos h, if_pos h]
        · rw [if_neg h, if_neg h]
      rw [if_pos rfl, if_pos (show true = true ∧ true = true from ⟨rfl, rfl⟩)]
      by_cases h3 : ent l t m ≥ 0
      · simp only [if_pos h3, if_pos (show 0 ≤ ent l t m from h3), if_pos (show ent l t m < (l.length : Int) by omega)]
        cases h4 : (rd_T49 l (ent l t m)).f4 with
        | true => rw [copy, if_pos rfl]
        | false => rw [put, if_neg (by omega), if_neg (by simp)]
      · rw [if_neg h3, put, if_neg (show ¬ 0 ≤ ent l t m by omega)]
        by_cases h4 : 12 ≤ l.length
        · rw [if_pos ⟨by omega, h4⟩, if_pos h4]
        · rw [if_neg (fun h => h4 h.2), if_neg h4]
theorem spec_Learn_eq {l : List S49} (t m p : Int) (hn : l.length ≤ 1099511627776) {k : Nat} (hk : 2 * l.length + 3 ≤ k) : spec_Learn.f k l t m p = some (learnL l t m p) := by
  obtain ⟨k, rfl⟩ : ∃ j, k = j + 1 := ⟨k - 1, by omega⟩
  have hr := ent_range l t m
  unfold spec_Learn.f learnL
  rw [spec_l8At_eq t m hn (by omega), Option.bind_some, spec_FdbOk_eq hn (by omega), Option.bind_some]
  have copy : spec_Learn.j0 (k + 1) l true t m p 0 false = some l := by
    simp only [spec_Learn.j0]; rw [if_pos trivial, spec_l8Copy_eq hn]; rfl
  have put : spec_Learn.j0 (k + 1) l false t m p 0 false = some (putL l ⟨t, m, p, 0, false⟩) := by
    simp only [spec_Learn.j0]; rw [if_neg (by simp), spec_l8Put_eq t m p 0 false hn (by omega)]; rfl
  cases h1 : fdbOk l with
  | false => rw [if_neg (by simp), if_neg (by simp)]; exact copy
  | true =>
    rw [if_pos rfl, spec_l8Ent_eq, Option.bind_some]
    cases h2 : entOk t m p 0 false with
    | false => rw [if_neg (by simp), if_neg (by simp)]; exact copy
    | true =>
      rw [if_pos rfl, if_pos (show true = true ∧ true = true from ⟨rfl, rfl⟩)]
      by_cases h3 : ent l t m ≥ 0
      · simp only [if_pos h3, if_pos (show 0 ≤ ent l t m from h3), if_pos (show ent l t m < (l.length : Int) by omega)]
        cases h4 : (rd_T49 l (ent l t m)).f4 with
        | true => rw [if_pos rfl, copy, if_pos rfl]
        | false => rw [if_neg (by simp), if_neg (by omega), put, if_neg (by simp)]
      · rw [if_neg h3, if_pos (by omega), if_neg (show ¬ 0 ≤ ent l t m by omega)]
        by_cases h4 : 12 ≤ l.length
        · rw [decide_eq_true (show (l.length : Int) ≥ 12 by omega), copy, if_pos h4]
        · rw [decide_eq_false (show ¬ (l.length : Int) ≥ 12 by omega), put, if_neg h4]
theorem spec_SetStatic_eq {l : List S49} (t m p : Int) (hn : l.length ≤ 1099511627776) {k : Nat} (hk : 2 * l.length + 3 ≤ k) : spec_SetStatic.f k l t m p = some (setL l t m p) := by
  obtain ⟨k, rfl⟩ : ∃ j, k = j + 1 := ⟨k - 1, by omega⟩
  have hr := ent_range l t m
  unfold spec_SetStatic.f setL
  rw [spec_FdbOk_eq hn (by omega), Option.bind_some]
  have copy : spec_SetStatic.j0 (k + 1) l true t m p 0 true = some (l, false) := by
    simp only [spec_SetStatic.j0]; rw [if_pos trivial, spec_l8Copy_eq hn]; rfl
  have put : spec_SetStatic.j0 (k + 1) l false t m p 0 true = some (putL l ⟨t, m, p, 0, true⟩, true) := by
    simp only [spec_SetStatic.j0]; rw [if_neg (by simp), spec_l8Put_eq t m p 0 true hn (by omega)]; rfl
  cases h1 : fdbOk l with
  | false => rw [if_neg (by simp), if_neg (by simp)]; exact copy
  | true =>
    rw [if_pos rfl, spec_l8Ent_eq, Option.bind_some]
    cases h2 : entOk t m p 0 true with
    | false => rw [if_neg (by simp), if_neg (by simp)]; exact copy
    | true =>
      rw [if_pos rfl, if_pos ⟨rfl, rfl⟩, spec_l8At_eq t m hn (by omega), Option.bind_some]
      by_cases h3 : ent l t m < 0
      · rw [if_pos h3]
        by_cases h4 : 12 ≤ l.length
        · rw [decide_eq_true (show (l.length : Int) ≥ 12 by omega), copy, if_pos ⟨h3, h4⟩]
        · rw [decide_eq_false (show ¬ (l.length : Int) ≥ 12 by omega), put, if_neg (fun h => h4 h.2)]
      · rw [if_neg h3, put, if_neg (fun h => h3 h.1)]
theorem impl_SetStatic_eq {l : List S49} (t m p : Int) (hn : l.length ≤ 1099511627776) {k : Nat} (hk : l.length + 3 ≤ k) : impl_SetStatic.f k l t m p = some (setL l t m p) := by
  obtain ⟨k, rfl⟩ : ∃ j, k = j + 1 := ⟨k - 1, by omega⟩
  unfold impl_SetStatic.f setL
  rw [impl_FdbOk_eq hn (by omega), Option.bind_some]
  cases h1 : fdbOk l with
  | false => rw [if_neg (by simp)]; simp [impl_copyFdb_eq hn, impl_SetStatic.j0]
  | true =>
    rw [if_pos rfl, impl_fentOk_eq, Option.bind_some]
    cases h2 : entOk t m p 0 true with
    | false => rw [if_neg (by simp)]; simp [impl_copyFdb_eq hn, impl_SetStatic.j0]
    | true =>
      rw [if_pos (show true = true ∧ true = true from ⟨rfl, rfl⟩)]
      simp only [impl_SetStatic.j0]
      rw [if_neg (by simp), impl_put_eq t m p 0 true hn (by omega) (fdbOk_iff.1 h1).1, Option.bind_some]
/-! ### draws: what they answer is in range, whatever was drawn from -/
theorem and255 (x : Int) : 0 ≤ Go.bits .and .i64 x 255 ∧ Go.bits .and .i64 x 255 ≤ 255 := by
  simp only [Go.bits]
  have h : (BitVec.ofInt 64 x &&& BitVec.ofInt 64 255).toNat ≤ 255 := by
    rw [BitVec.toNat_and, show (BitVec.ofInt 64 255).toNat = 255 by decide]
    exact Nat.and_le_right
  show 0 ≤ IntKind.i64.wrap (((BitVec.ofInt 64 x &&& BitVec.ofInt 64 255).toNat : Int)) ∧ IntKind.i64.wrap (((BitVec.ofInt 64 x &&& BitVec.ofInt 64 255).toNat : Int)) ≤ 255
  rw [IntKind.wrap_i64]
  omega
/-- A draw that went well: the value in range, the place not behind the end. -/
def Drawn (l : List Int) (lo hi : Int) (o : Option (Int × Int × Int)) : Prop := ∃ v i s, o = some (v, i, s) ∧ lo ≤ v ∧ v ≤ hi ∧ 0 ≤ i ∧ i ≤ l.length
theorem spec_l1Byte_eq {l : List Int} (hl : l.length ≤ 1099511627776) {i : Int} (h0 : 0 ≤ i) (h1 : i ≤ l.length) (s : Int) : Drawn l 0 255 (spec_l1Byte.f l i s) := by
  unfold spec_l1Byte.f
  by_cases h : i < (l.length : Int)
  · rw [if_pos h, if_pos h0, w64 (n := i + 1) (by omega) (by omega)]
    exact ⟨_, _, _, rfl, (and255 _).1, (and255 _).2, by omega, by omega⟩
  · rw [if_neg h]
    exact ⟨_, _, _, rfl, (and255 _).1, (and255 _).2, h0, h1⟩
theorem spec_l1New_l0 (l : List Int) (hl : l.length ≤ 1099511627776) (d : Nat) : ∀ (k i : Nat) (s : Int), l.length - i = d → d < k → ∃ s', spec_l1New.l0 k l s (i : Int) = some (l, 0, s') := by
  induction d with
  | zero =>
    intro k i s hd hk
    obtain ⟨k, rfl⟩ : ∃ m, k = m + 1 := ⟨k - 1, by omega⟩
    simp only [spec_l1New.l0]
    rw [if_neg (by omega)]
    exact ⟨_, rfl⟩
  | succ d ih =>
    intro k i s hd hk
    obtain ⟨k, rfl⟩ : ∃ m, k = m + 1 := ⟨k - 1, by omega⟩
    have nx := fun s => ih k (i + 1) s (by omega) (by omega)
    rw [show ((i + 1 : Nat) : Int) = (i : Int) + 1 by omega] at nx
    simp only [spec_l1New.l0]
    rw [if_pos (by omega), w64 (n := (i : Int) + 1) (by omega) (by omega)]
    by_cases h : (i : Int) < 4000
    · rw [if_pos h, if_pos (by omega)]; exact nx _
    · rw [if_neg h]; exact ⟨_, rfl⟩
theorem spec_l1New_eq {l : List Int} (hl : l.length ≤ 1099511627776) {k : Nat} (hk : l.length < k) : ∃ s, spec_l1New.f k l = some (l, 0, s) := by
  unfold spec_l1New.f
  exact spec_l1New_l0 l hl l.length k 0 _ (by omega) hk
theorem tmod_range {x n : Int} (hx : 0 ≤ x) (hn : 0 < n) : 0 ≤ Int.tmod x n ∧ Int.tmod x n ≤ n - 1 := by
  rw [Int.tmod_eq_emod_of_nonneg hx]
  have := Int.emod_nonneg x (show n ≠ 0 by omega)
  have := Int.emod_lt_of_pos x hn
  omega
theorem spec_l1Below_eq {l : List Int} (hl : l.length ≤ 1099511627776) {i : Int} (h0 : 0 ≤ i) (h1 : i ≤ l.length) (s : Int) {n : Int} (hn : 0 < n) : Drawn l 0 (n - 1) (spec_l1Below.f l i s n) := by
  unfold spec_l1Below.f
  rw [if_neg (by omega)]
  obtain ⟨v, i, s, e, v0, v1, i0, i1⟩ := spec_l1Byte_eq hl h0 h1 s
  have nz : ¬ n = 0 := by omega
  simp only [e, Option.bind_some, if_neg nz]
  by_cases h : n ≤ 256
  · rw [if_pos h]
    exact ⟨_, _, _, rfl, (tmod_range v0 hn).1, (tmod_range v0 hn).2, i0, i1⟩
  · rw [if_neg h]
    obtain ⟨v2, i2, s2, e2, v20, v21, i20, i21⟩ := spec_l1Byte_eq hl i0 i1 s
    simp only [e2, Option.bind_some]
    obtain ⟨v3, i3, s3, e3, v30, v31, i30, i31⟩ := spec_l1Byte_eq hl i20 i21 s2
    simp only [e3, Option.bind_some]
    have hp : 0 ≤ wrap64 (wrap64 (wrap64 (v * 65536) + wrap64 (v2 * 256)) + v3) := by
      rw [w64 (n := v * 65536) (by omega) (by omega), w64 (n := v2 * 256) (by omega) (by omega), w64 (n := v * 65536 + v2 * 256) (by omega) (by omega), w64 (by omega) (by omega)]
      omega
    exact ⟨_, _, _, rfl, (tmod_range hp hn).1, (tmod_range hp hn).2, i30, i31⟩
theorem spec_l1Int_eq {l : List Int} (hl : l.length ≤ 1099511627776) {i : Int} (h0 : 0 ≤ i) (h1 : i ≤ l.length) (s : Int) {c : List Int} (hc : 0 < c.length) : ∃ j i' s', spec_l1Int.f l i s c = some (rd c (j : Nat), i', s') ∧ j < c.length ∧ 0 ≤ i' ∧ i' ≤ l.length := by
  unfold spec_l1Int.f
  obtain ⟨v, i, s, e, v0, v1, i0, i1⟩ := spec_l1Below_eq hl h0 h1 s (n := (c.length : Int)) (by omega)
  simp only [e, Option.bind_some]
  rw [if_pos v0, if_pos (by omega)]
  obtain ⟨j, rfl⟩ := Int.eq_ofNat_of_zero_le v0
  exact ⟨j, _, _, rfl, by omega, i0, i1⟩
theorem spec_l6Mac_eq {l : List Int} (hl : l.length ≤ 1099511627776) {i : Int} (h0 : 0 ≤ i) (h1 : i ≤ l.length) (s : Int) : Drawn l 11 14 (spec_l6Mac.f l i s) := by
  unfold spec_l6Mac.f
  obtain ⟨j, i', s', e, hj, i0, i1⟩ := spec_l1Int_eq hl h0 h1 s (c := [11, 12, 13, 14]) (by simp)
  simp only [e, Option.bind_some]
  refine ⟨_, _, _, rfl, ?_, ?_, i0, i1⟩ <;>
  · simp only [List.length_cons, List.length_nil] at hj
    rw [rd_nat]
    match j, hj with
    | 0, _ => decide
    | 1, _ => decide
    | 2, _ => decide
    | 3, _ => decide
theorem spec_l8Draw_l0 {b : List Int} (hb : b.length ≤ 1099511627776) (d : Nat) : ∀ (k : Nat) (x : List S49) (n i s : Int), n ≤ d → 0 ≤ n → n ≤ 100 → d + 40 ≤ k → fdbOk x = true → 0 ≤ i → i ≤ b.length → ∃ x' i' s', spec_l8Draw.l0 k x n b i s = some (x', i', s') ∧ fdbOk x' = true ∧ 0 ≤ i' ∧ i' ≤ b.length := by
  induction d with
  | zero =>
    intro k x n i s hn hn0 hn2 hk hx h0 h1
    obtain ⟨k, rfl⟩ : ∃ m, k = m + 1 := ⟨k - 1, by omega⟩
    simp only [spec_l8Draw.l0]
    rw [if_neg (by omega)]
    exact ⟨_, _, _, rfl, hx, h0, h1⟩
  | succ d ih =>
    intro k x n i s hn hn0 hn2 hk hx h0 h1
    obtain ⟨k, rfl⟩ : ∃ m, k = m + 1 := ⟨k - 1, by omega⟩
    have hxl : x.length ≤ 12 := (fdbOk_iff.1 hx).2
    simp only [spec_l8Draw.l0]
    by_cases hn1 : n > 0
    · rw [if_pos hn1, w64 (n := n - 1) (by omega) (by omega)]
      obtain ⟨v, i, s, e, v0, v1, i0, i1⟩ := spec_l1Below_eq hb h0 h1 s (n := 6) (by omega)
      simp only [e, Option.bind_some]
      by_cases c0 : v = 0
      · rw [if_pos c0]
        obtain ⟨v, i, s, e, v0, v1, i0, i1⟩ := spec_l1Below_eq hb i0 i1 s (n := 3) (by omega)
        simp only [e, Option.bind_some]
        obtain ⟨v2, i, s, e, v20, v21, i0, i1⟩ := spec_l6Mac_eq hb i0 i1 s
        simp only [e, Option.bind_some]
        obtain ⟨v3, i, s, e, v30, v31, i0, i1⟩ := spec_l1Below_eq hb i0 i1 s (n := 4) (by omega)
        simp only [e, Option.bind_some]
        rw [spec_SetStatic_eq _ _ _ (by omega) (by omega), Option.bind_some]
        exact ih k _ _ _ _ (by omega) (by omega) (by omega) (by omega) (setStatic_ok _ _ _ hx) i0 i1
      · rw [if_neg c0]
        by_cases c1 : v = 1
        · rw [if_pos c1, spec_AgeAll_eq (by omega) (by omega), Option.bind_some]
          exact ih k _ _ _ _ (by omega) (by omega) (by omega) (by omega) (age_ok hx) i0 i1
        · rw [if_neg c1]
          obtain ⟨v, i, s, e, v0, v1, i0, i1⟩ := spec_l1Below_eq hb i0 i1 s (n := 3) (by omega)
          simp only [e, Option.bind_some]
          obtain ⟨v2, i, s, e, v20, v21, i0, i1⟩ := spec_l6Mac_eq hb i0 i1 s
          simp only [e, Option.bind_some]
          obtain ⟨v3, i, s, e, v30, v31, i0, i1⟩ := spec_l1Below_eq hb i0 i1 s (n := 3) (by omega)
          simp only [e, Option.bind_some]
          obtain ⟨v4, i, s, e, v40, v41, i0, i1⟩ := spec_l1Below_eq hb i0 i1 s (n := 4) (by omega)
          simp only [e, Option.bind_some]
          rw [spec_Learn_eq _ _ _ (by omega) (by omega), Option.bind_some]
          exact ih k _ _ _ _ (by omega) (by omega) (by omega) (by omega) (learn_ok _ _ _ hx) i0 i1
    · rw [if_neg hn1]
      exact ⟨_, _, _, rfl, hx, h0, h1⟩
theorem spec_l8Draw_eq {b : List Int} (hb : b.length ≤ 1099511627776) {i : Int} (h0 : 0 ≤ i) (h1 : i ≤ b.length) (s : Int) {k : Nat} (hk : 60 ≤ k) : ∃ x' i' s', spec_l8Draw.f k b i s = some (x', i', s') ∧ fdbOk x' = true ∧ 0 ≤ i' ∧ i' ≤ b.length := by
  unfold spec_l8Draw.f
  obtain ⟨v, i, s, e, v0, v1, i0, i1⟩ := spec_l1Below_eq hb h0 h1 s (n := 10) (by omega)
  simp only [e, Option.bind_some]
  exact spec_l8Draw_l0 hb 10 k [] v i s (by omega) v0 (by omega) (by omega) rfl i0 i1
/-- Without the first that is kept for good and of both; was there one? -/
def dropL (t m : Int) : List S49 → List S49 × Bool
  | [] => ([], false)
  | e :: l => if e.f4 = true ∧ e.f0 = t ∧ e.f1 = m then (l, true) else (e :: (dropL t m l).1, (dropL t m l).2)
theorem dropL_eq (t m : Int) (e : S49) (l : List S49) : dropL t m (e :: l) = if e.f4 = true ∧ e.f0 = t ∧ e.f1 = m then (l, true) else (e :: (dropL t m l).1, (dropL t m l).2) := rfl
theorem dropL_len (t m : Int) (l : List S49) : (dropL t m l).1.length ≤ l.length := by
  induction l with
  | nil => simp [dropL]
  | cons e l ih =>
    rw [dropL_eq]
    split
    · simp
    · simp; omega
theorem takeT_one {l : List S49} {i : Nat} (h : i < l.length) : l.take (i + 1) = l.take i ++ [rd_T49 l (i : Int)] := by
  rw [List.take_add_one, List.getElem?_eq_getElem h]
  unfold rd_T49
  rw [Int.toNat_natCast, List.getD_eq_getElem?_getD, List.getElem?_eq_getElem h]; rfl
theorem impl_DropStatic_l0 (l : List S49) (t m : Int) (hn : l.length ≤ 1099511627776) (d : Nat) : ∀ (k i : Nat), l.length - i = d → d < k → i ≤ l.length → impl_DropStatic.l0 k l t m l (l.length : Int) (i : Int) = some (l.take i ++ (dropL t m (l.drop i)).1, (dropL t m (l.drop i)).2) := by
  induction d with
  | zero =>
    intro k i hd hk hi
    obtain ⟨k, rfl⟩ : ∃ m, k = m + 1 := ⟨k - 1, by omega⟩
    simp only [impl_DropStatic.l0]
    rw [if_neg (by omega), impl_copyFdb_eq hn, Option.bind_some, List.drop_of_length_le (by omega), List.take_of_length_le (by omega)]
    simp [dropL]
  | succ d ih =>
    intro k i hd hk hi
    obtain ⟨k, rfl⟩ : ∃ m, k = m + 1 := ⟨k - 1, by omega⟩
    have hlt : i < l.length := by omega
    have nx := ih k (i + 1) (by omega) (by omega) (by omega)
    rw [show ((i + 1 : Nat) : Int) = (i : Int) + 1 by omega, takeT_one hlt] at nx
    simp only [impl_DropStatic.l0]
    rw [if_pos (by omega), if_pos (by omega), if_pos (by omega), w64 (n := (i : Int) + 1) (by omega) (by omega), nx, rdT_cons hlt, dropL_eq]
    by_cases h1 : (rd_T49 l (i : Int)).f4 = true
    · rw [if_pos h1]
      by_cases h2 : (rd_T49 l (i : Int)).f0 = t
      · rw [if_pos h2]
        by_cases h3 : (rd_T49 l (i : Int)).f1 = m
        · rw [if_pos h3, if_pos (by omega), Int.toNat_natCast, impl_copyFdb_eq (by rw [List.length_take]; omega), Option.bind_some, if_pos (by omega), if_pos (by omega), Option.bind_some, if_pos (by rw [List.length_take, List.length_drop]; omega), if_pos (show (rd_T49 l (i : Int)).f4 = true ∧ (rd_T49 l (i : Int)).f0 = t ∧ (rd_T49 l (i : Int)).f1 = m from ⟨h1, h2, h3⟩), show ((i : Int) + 1).toNat = i + 1 by omega]
        · rw [if_neg h3, if_neg (fun h => h3 h.2.2)]; simp
      · rw [if_neg h2, if_neg (fun h => h2 h.2.1)]; simp
    · rw [if_neg h1, if_neg (fun h => h1 h.1)]; simp
theorem impl_DropStatic_eq {l : List S49} (t m : Int) (hn : l.length ≤ 1099511627776) {k : Nat} (hk : l.length < k) : impl_DropStatic.f k l t m = some (dropL t m l) := by
  unfold impl_DropStatic.f
  have := impl_DropStatic_l0 l t m hn l.length k 0 (by omega) hk (by omega)
  simpa using this
theorem spec_DropStatic_l0 (l : List S49) (t m : Int) (hn : l.length ≤ 1099511627776) (d : Nat) : ∀ (k i : Nat) (acc : List S49) (b : Bool), l.length - i = d → d < k → i ≤ l.length → acc.length ≤ i → spec_DropStatic.l0 k l t m acc b (i : Int) = some (if b = true then (acc ++ l.drop i, true) else (acc ++ (dropL t m (l.drop i)).1, (dropL t m (l.drop i)).2)) := by
  induction d with
  | zero =>
    intro k i acc b hd hk hi ha
    obtain ⟨k, rfl⟩ : ∃ m, k = m + 1 := ⟨k - 1, by omega⟩
    simp only [spec_DropStatic.l0]
    rw [if_neg (by omega), List.drop_of_length_le (by omega)]
    cases b <;> simp [dropL]
  | succ d ih =>
    intro k i acc b hd hk hi ha
    obtain ⟨k, rfl⟩ : ∃ m, k = m + 1 := ⟨k - 1, by omega⟩
    have hlt : i < l.length := by omega
    have nx := fun acc b h => ih k (i + 1) acc b (by omega) (by omega) (by omega) h
    rw [show ((i + 1 : Nat) : Int) = (i : Int) + 1 by omega] at nx
    simp only [spec_DropStatic.l0]
    rw [if_pos (by omega), w64 (n := (i : Int) + 1) (by omega) (by omega), rdT_cons hlt]
    cases b with
    | true =>
      rw [if_pos rfl, if_pos (by omega), if_pos (by omega), nx _ _ (by simp; omega), if_pos rfl, if_pos rfl]; simp
    | false =>
      have hf : ¬ (false = true) := by simp
      simp only [if_neg hf]
      rw [if_pos (by omega), dropL_eq]
      by_cases h1 : (rd_T49 l (i : Int)).f4 = true
      · rw [if_pos h1]
        by_cases h2 : (rd_T49 l (i : Int)).f0 = t
        · rw [if_pos h2]
          by_cases h3 : (rd_T49 l (i : Int)).f1 = m
          · rw [if_pos h3, nx _ _ (by omega), if_pos rfl, if_pos (show (rd_T49 l (i : Int)).f4 = true ∧ (rd_T49 l (i : Int)).f0 = t ∧ (rd_T49 l (i : Int)).f1 = m from ⟨h1, h2, h3⟩)]
          · rw [if_neg h3, if_pos (by omega), nx _ _ (by simp; omega), if_neg hf, if_neg (fun h => h3 h.2.2)]; simp
        · rw [if_neg h2, if_pos (by omega), nx _ _ (by simp; omega), if_neg hf, if_neg (fun h => h2 h.2.1)]; simp
      · rw [if_neg h1, if_pos (by omega), nx _ _ (by simp; omega), if_neg hf, if_neg (fun h => h1 h.1)]; simp
theorem spec_DropStatic_eq {l : List S49} (t m : Int) (hn : l.length ≤ 1099511627776) {k : Nat} (hk : l.length < k) : spec_DropStatic.f k l t m = some (dropL t m l) := by
  unfold spec_DropStatic.f
  have := spec_DropStatic_l0 l t m hn l.length k 0 [] false (by omega) hk (by omega) (by simp)
  simpa using this
/-- The place of the first behind a tag and a mac, from a place on; -1. -/
def nextFrom (t m : Int) : List S49 → Int → Int
  | [], _ => -1
  | e :: l, i => if behindP e t m then i else nextFrom t m l (i + 1)
theorem nextFrom_eq (t m : Int) (e : S49) (l : List S49) (i : Int) : nextFrom t m (e :: l) i = if behindP e t m then i else nextFrom t m l (i + 1) := rfl
theorem impl_NextEnt_l0 (l : List S49) (t m : Int) (hn : l.length ≤ 1099511627776) (d : Nat) : ∀ (k i : Nat), l.length - i = d → d < k → i ≤ l.length → impl_NextEnt.l0 k t m l (l.length : Int) (i : Int) = some (nextFrom t m (l.drop i) (i : Int)) := by
  induction d with
  | zero =>
    intro k i hd hk hi
    obtain ⟨k, rfl⟩ : ∃ m, k = m + 1 := ⟨k - 1, by omega⟩
    simp only [impl_NextEnt.l0]
    rw [if_neg (by omega), List.drop_of_length_le (by omega)]; rfl
  | succ d ih =>
    intro k i hd hk hi
    obtain ⟨k, rfl⟩ : ∃ m, k = m + 1 := ⟨k - 1, by omega⟩
    have hlt : i < l.length := by omega
    have nx := ih k (i + 1) (by omega) (by omega) (by omega)
    rw [show ((i + 1 : Nat) : Int) = (i : Int) + 1 by omega] at nx
    simp only [impl_NextEnt.l0]
    rw [if_pos (by omega), if_pos (by omega), if_pos (by omega), impl_behind_eq, Option.bind_some, rdT_cons hlt, w64 (n := (i : Int) + 1) (by omega) (by omega), nx, nextFrom_eq]
    by_cases h : behindP (rd_T49 l (i : Int)) t m
    · rw [if_pos (decide_eq_true h), if_pos h]
    · rw [if_neg (by simpa using h), if_neg h]
theorem impl_NextEnt_eq {l : List S49} (t m : Int) (hn : l.length ≤ 1099511627776) {k : Nat} (hk : l.length < k) : impl_NextEnt.f k l t m = some (nextFrom t m l 0) := by
  unfold impl_NextEnt.f
  exact impl_NextEnt_l0 l t m hn l.length k 0 (by omega) hk (by omega)
theorem spec_NextEnt_l0 (l : List S49) (t m : Int) (hn : l.length ≤ 1099511627776) (d : Nat) : ∀ (k i : Nat), l.length - i = d → d < k → i ≤ l.length → spec_NextEnt.l0 k l t m (i : Int) = some (nextFrom t m (l.drop i) (i : Int)) := by
  induction d with
  | zero =>
    intro k i hd hk hi
    obtain ⟨k, rfl⟩ : ∃ m, k = m + 1 := ⟨k - 1, by omega⟩
    simp only [spec_NextEnt.l0]
    rw [if_neg (by omega), List.drop_of_length_le (by omega)]; rfl
  | succ d ih =>
    intro k i hd hk hi
    obtain ⟨k, rfl⟩ : ∃ m, k = m + 1 := ⟨k - 1, by omega⟩
    have hlt : i < l.length := by omega
    have nx := ih k (i + 1) (by omega) (by omega) (by omega)
    rw [show ((i + 1 : Nat) : Int) = (i : Int) + 1 by omega] at nx
    simp only [spec_NextEnt.l0]
    rw [if_pos (by omega), if_pos (by omega), spec_l8Ahead_eq, Option.bind_some, rdT_cons hlt, w64 (n := (i : Int) + 1) (by omega) (by omega), nx, nextFrom_eq]
    by_cases h : aheadP (rd_T49 l (i : Int)) t m
    · rw [if_pos (decide_eq_true h), if_neg (by unfold aheadP at h; unfold behindP; omega)]
    · rw [if_neg (by simpa using h)]
      by_cases h2 : (rd_T49 l (i : Int)).f0 = t
      · rw [if_pos h2]
        by_cases h3 : (rd_T49 l (i : Int)).f1 = m
        · rw [if_pos h3, if_neg (by unfold behindP; omega)]
        · rw [if_neg h3, if_pos (by unfold aheadP at h; unfold behindP; omega)]
      · rw [if_neg h2, if_pos (by unfold aheadP at h; unfold behindP; omega)]
theorem spec_NextEnt_eq {l : List S49} (t m : Int) (hn : l.length ≤ 1099511627776) {k : Nat} (hk : l.length < k) : spec_NextEnt.f k l t m = some (nextFrom t m l 0) := by
  unfold spec_NextEnt.f
  exact spec_NextEnt_l0 l t m hn l.length k 0 (by omega) hk (by omega)
theorem spec_l8Any_l0 {b : List Int} (hb : b.length ≤ 1099511627776) (d : Nat) : ∀ (k : Nat) (x : List S49) (n i s : Int), n + d = 14 → 0 ≤ n → d < k → x.length ≤ 12 + n → 0 ≤ i → i ≤ b.length → ∃ x' i' s', spec_l8Any.l0 k x n b i s = some (x', i', s') ∧ x'.length ≤ 26 ∧ 0 ≤ i' ∧ i' ≤ b.length := by
  induction d with
  | zero =>
    intro k x n i s hn hn0 hk hx h0 h1
    obtain ⟨k, rfl⟩ : ∃ m, k = m + 1 := ⟨k - 1, by omega⟩
    simp only [spec_l8Any.l0]
    obtain ⟨v, i, s, e, v0, v1, i0, i1⟩ := spec_l1Below_eq hb h0 h1 s (n := 3) (by omega)
    simp only [e, Option.bind_some]
    rw [w64 (n := 11 + v) (by omega) (by omega), if_neg (by omega)]
    exact ⟨_, _, _, rfl, by omega, i0, i1⟩
  | succ d ih =>
    intro k x n i s hn hn0 hk hx h0 h1
    obtain ⟨k, rfl⟩ : ∃ m, k = m + 1 := ⟨k - 1, by omega⟩
    simp only [spec_l8Any.l0]
    obtain ⟨v, i, s, e, v0, v1, i0, i1⟩ := spec_l1Below_eq hb h0 h1 s (n := 3) (by omega)
    simp only [e, Option.bind_some]
    rw [w64 (n := 11 + v) (by omega) (by omega), w64 (n := n + 1) (by omega) (by omega)]
    by_cases c : n < 11 + v
    · rw [if_pos c, if_pos (by omega)]
      exact ih k _ _ _ _ (by omega) (by omega) (by omega) (by simp; omega) i0 i1
    · rw [if_neg c]
      exact ⟨_, _, _, rfl, by omega, i0, i1⟩
theorem spec_l8Any_eq {b : List Int} (hb : b.length ≤ 1099511627776) {i : Int} (h0 : 0 ≤ i) (h1 : i ≤ b.length) (s : Int) {k : Nat} (hk : 60 ≤ k) : ∃ x' i' s', spec_l8Any.f k b i s = some (x', i', s') ∧ x'.length ≤ 26 ∧ 0 ≤ i' ∧ i' ≤ b.length := by
  unfold spec_l8Any.f
  obtain ⟨x, i, s, e, hx, i0, i1⟩ := spec_l8Draw_eq hb h0 h1 s (k := k) (by omega)
  have h12 := (fdbOk_iff.1 hx).2
  simp only [e, Option.bind_some]
  obtain ⟨v, i, s, e, v0, v1, i0, i1⟩ := spec_l1Below_eq hb i0 i1 s (n := 12) (by omega)
  simp only [e, Option.bind_some]
  by_cases c : v = 0
  · rw [if_pos c]
    obtain ⟨j, i, s, e, hj, i0, i1⟩ := spec_l1Int_eq hb i0 i1 s (c := [0, 1, 99, 100]) (by simp)
    simp only [e, Option.bind_some]
    obtain ⟨j, i, s, e, hj, i0, i1⟩ := spec_l1Int_eq hb i0 i1 s (c := [0, 1, 9999]) (by simp)
    simp only [e, Option.bind_some]
    obtain ⟨j, i, s, e, hj, i0, i1⟩ := spec_l1Int_eq hb i0 i1 s (c := [-1, 7, 8]) (by simp)
    simp only [e, Option.bind_some]
    obtain ⟨j, i, s, e, hj, i0, i1⟩ := spec_l1Int_eq hb i0 i1 s (c := [-1, 4, 5]) (by simp)
    simp only [e, Option.bind_some]
    rw [if_pos (by omega)]
    exact ⟨_, _, _, rfl, by simp; omega, i0, i1⟩
  · rw [if_neg c]
    by_cases c1 : v = 1
    · rw [if_pos c1]
      exact spec_l8Any_l0 hb 14 k x 0 i s (by omega) (by omega) (by omega) (by omega) i0 i1
    · rw [if_neg c1]
      exact ⟨_, _, _, rfl, by omega, i0, i1⟩
theorem spec_DrawLearn_eq {b : List Int} (hb : b.length ≤ 1099511627776) {k : Nat} (hk : b.length + 60 ≤ k) : ∃ x t m p, spec_DrawLearn.f k b = some (x, t, m, p) ∧ x.length ≤ 26 := by
  unfold spec_DrawLearn.f
  obtain ⟨s, e⟩ := spec_l1New_eq hb (k := k) (by omega)
  simp only [e, Option.bind_some]
  obtain ⟨x, i, s, e, hx, i0, i1⟩ := spec_l8Any_eq hb (i := 0) (by omega) (by omega) s (k := k) (by omega)
  simp only [e, Option.bind_some]
  obtain ⟨j, i, s, e, hj, i0, i1⟩ := spec_l1Int_eq hb i0 i1 s (c := [1, 2, 3, 0, 100]) (by simp)
  simp only [e, Option.bind_some]
  obtain ⟨j, i, s, e, hj, i0, i1⟩ := spec_l1Int_eq hb i0 i1 s (c := [11, 12, 15, 0, 10000]) (by simp)
  simp only [e, Option.bind_some]
  obtain ⟨j, i, s, e, hj, i0, i1⟩ := spec_l1Int_eq hb i0 i1 s (c := [0, 1, 7, 8, -1]) (by simp)
  simp only [e, Option.bind_some]
  exact ⟨_, _, _, _, rfl, hx⟩
theorem spec_DrawLookUp_eq {b : List Int} (hb : b.length ≤ 1099511627776) {k : Nat} (hk : b.length + 60 ≤ k) : ∃ x t m, spec_DrawLookUp.f k b = some (x, t, m) ∧ x.length ≤ 26 := by
  unfold spec_DrawLookUp.f
  obtain ⟨s, e⟩ := spec_l1New_eq hb (k := k) (by omega)
  simp only [e, Option.bind_some]
  obtain ⟨x, i, s, e, hx, i0, i1⟩ := spec_l8Any_eq hb (i := 0) (by omega) (by omega) s (k := k) (by omega)
  simp only [e, Option.bind_some]
  obtain ⟨v, i, s, e, v0, v1, i0, i1⟩ := spec_l1Below_eq hb i0 i1 s (n := 3) (by omega)
  simp only [e, Option.bind_some]
  obtain ⟨v2, i, s, e, v20, v21, i0, i1⟩ := spec_l6Mac_eq hb i0 i1 s
  simp only [e, Option.bind_some]
  exact ⟨_, _, _, rfl, hx⟩
theorem spec_DrawDropStatic_eq {b : List Int} (hb : b.length ≤ 1099511627776) {k : Nat} (hk : b.length + 60 ≤ k) : ∃ x t m, spec_DrawDropStatic.f k b = some (x, t, m) ∧ x.length ≤ 26 := by
  unfold spec_DrawDropStatic.f
  obtain ⟨x, t, m, e, hx⟩ := spec_DrawLookUp_eq hb hk
  simp only [e, Option.bind_some]
  exact ⟨_, _, _, rfl, hx⟩
theorem spec_DrawNextEnt_eq {b : List Int} (hb : b.length ≤ 1099511627776) {k : Nat} (hk : b.length + 60 ≤ k) : ∃ x t m, spec_DrawNextEnt.f k b = some (x, t, m) ∧ x.length ≤ 26 := by
  unfold spec_DrawNextEnt.f
  obtain ⟨s, e⟩ := spec_l1New_eq hb (k := k) (by omega)
  simp only [e, Option.bind_some]
  obtain ⟨x, i, s, e, hx, i0, i1⟩ := spec_l8Any_eq hb (i := 0) (by omega) (by omega) s (k := k) (by omega)
  simp only [e, Option.bind_some]
  obtain ⟨v, i, s, e, v0, v1, i0, i1⟩ := spec_l1Below_eq hb i0 i1 s (n := 5) (by omega)
  simp only [e, Option.bind_some]
  obtain ⟨j, i, s, e, hj, i0, i1⟩ := spec_l1Int_eq hb i0 i1 s (c := [0, 11, 12, 13, 99]) (by simp)
  simp only [e, Option.bind_some]
  exact ⟨_, _, _, rfl, hx⟩
theorem spec_DrawFlushPort_eq {b : List Int} (hb : b.length ≤ 1099511627776) {k : Nat} (hk : b.length + 60 ≤ k) : ∃ x p, spec_DrawFlushPort.f k b = some (x, p) ∧ x.length ≤ 26 := by
  unfold spec_DrawFlushPort.f
  obtain ⟨s, e⟩ := spec_l1New_eq hb (k := k) (by omega)
  simp only [e, Option.bind_some]
  obtain ⟨x, i, s, e, hx, i0, i1⟩ := spec_l8Any_eq hb (i := 0) (by omega) (by omega) s (k := k) (by omega)
  simp only [e, Option.bind_some]
  obtain ⟨j, i, s, e, hj, i0, i1⟩ := spec_l1Int_eq hb i0 i1 s (c := [0, 1, 2, 3, -1]) (by simp)
  simp only [e, Option.bind_some]
  exact ⟨_, _, rfl, hx⟩
end Go.Proofs.Ytkcgghgkmgbphaa.EqFnFdbsBent
