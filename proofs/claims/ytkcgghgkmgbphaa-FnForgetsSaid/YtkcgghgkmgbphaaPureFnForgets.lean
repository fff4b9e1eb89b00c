/- A port that is emptied leaves no entry of its own but those set; five ageings leave just those set; ageing is that of the reference.
Conditions: those of the printed statement (sizes of what came in, each number of its kind). -/
import Derived.Test.YtkcgghgkmgbphaaEqFnForgets
namespace Go.Proofs.Ytkcgghgkmgbphaa.Pure
open Go.RowKit Go.Proofs.Ytkcgghgkmgbphaa.PFnForgets Go.Proofs.YtkcgghgkmgbphaaW.PrintWords Go.Proofs.YtkcgghgkmgbphaaW.PrintLast Go.Proofs.Ytkcgghgkmgbphaa.Base Go.Proofs.Ytkcgghgkmgbphaa.EqFnForgets

def cnt (l : List S49) : Nat := (l.filter (·.f4)).length
theorem cnt_cons (e : S49) (l : List S49) : cnt (e :: l) = (if e.f4 = true then 1 else 0) + cnt l := by
  unfold cnt
  rw [List.filter_cons]
  by_cases h : e.f4 = true
  · rw [if_pos h, if_pos h, List.length_cons]; omega
  · rw [if_neg h, if_neg h]; omega
theorem cnt_age (l : List S49) : cnt (ageL l) = cnt l := by
  induction l with
  | nil => rfl
  | cons e l ih =>
    rw [ageL_cons]
    by_cases h : e.f4 = true
    · rw [if_pos h, cnt_cons, cnt_cons, ih]
    · rw [if_neg h, cnt_cons, if_neg h]
      by_cases h2 : e.f3 < 4
      · rw [if_pos h2, cnt_cons, ih, if_neg h]
      · rw [if_neg h2, ih]; omega
/-- What is not kept for good is of at least this age, and no entry is too old. -/
def Old (n : Int) (l : List S49) : Prop := ∀ e ∈ l, e.f4 = true ∨ n ≤ e.f3 ∧ e.f3 ≤ 4
theorem old_age {n : Int} {l : List S49} (h0 : 0 ≤ n) (h : Old n l) : Old (n + 1) (ageL l) := by
  induction l with
  | nil => intro e he; simp [ageL] at he
  | cons e l ih =>
    have hl := ih (fun x hx => h x (List.mem_cons_of_mem _ hx))
    have he := h e (by simp)
    rw [ageL_cons]
    by_cases h4 : e.f4 = true
    · rw [if_pos h4]
      intro x hx
      rcases List.mem_cons.1 hx with rfl | hx
      · exact .inl h4
      · exact hl x hx
    · rw [if_neg h4]
      have he2 : n ≤ e.f3 ∧ e.f3 ≤ 4 := he.resolve_left h4
      by_cases h2 : e.f3 < 4
      · rw [if_pos h2]
        intro x hx
        rcases List.mem_cons.1 hx with rfl | hx
        · right
          show n + 1 ≤ wrap64 (e.f3 + 1) ∧ wrap64 (e.f3 + 1) ≤ 4
          rw [w64 (by omega) (by omega)]; omega
        · exact hl x hx
      · rw [if_neg h2]; exact hl
theorem old_cnt {l : List S49} (h : Old 5 l) : l.length = cnt l := by
  induction l with
  | nil => rfl
  | cons e l ih =>
    have he : e.f4 = true := (h e (by simp)).resolve_right (by omega)
    rw [cnt_cons, if_pos he, List.length_cons, ih (fun x hx => h x (List.mem_cons_of_mem _ hx))]; omega
theorem chain_all {p : Option S49} {l : List S49} (h : chain p l = true) : ∀ e ∈ l, eOk e = true := by
  induction l generalizing p with
  | nil => intro e he; simp at he
  | cons x l ih =>
    obtain ⟨h1, _, h3⟩ := chain_cons.1 h
    intro e he
    rcases List.mem_cons.1 he with rfl | he
    · exact h1
    · exact ih h3 e he
theorem old_ok {l : List S49} (h : fdbOk l = true) : Old 0 l := by
  intro e he
  have := chain_all (fdbOk_iff.1 h).1 e he
  simp only [eOk, entOk, decide_eq_true_eq] at this
  exact .inr ⟨this.2.2.2.2.2.2.1, this.2.2.2.2.2.2.2.1⟩
theorem FnForgets_l2 (l f a : List S49) (hl : fdbOk l = true) (hf : fdbOk f = true) (d : Nat) : ∀ (k i : Nat) (c : Int), l.length - i = d → d + 40 ≤ k → i ≤ l.length → 0 ≤ c → c ≤ i → (a.length : Int) = c + cnt (l.drop i) → laws_FnForgets.l2 k l f a c (i : Int) = some true := by
  have h12 := (fdbOk_iff.1 hl).2
  have hf12 := (fdbOk_iff.1 hf).2
  induction d with
  | zero =>
    intro k i c hd hk hi h0 h1 he
    obtain ⟨k, rfl⟩ : ∃ m, k = m + 1 := ⟨k - 1, by omega⟩
    rw [List.drop_of_length_le (by omega)] at he
    simp only [laws_FnForgets.l2]
    rw [if_neg (by omega), if_pos (by simp [cnt] at he; omega), impl_FdbOk_eq (by omega) (by omega), Option.bind_some, hf, if_pos rfl, impl_AgeAll_eq (by omega) (by omega), Option.bind_some, spec_AgeAll_eq (by omega) (by omega), Option.bind_some, sameFdb_self (by have := List.length_filterMap_le ageE l; unfold ageL; omega) (by have := List.length_filterMap_le ageE l; unfold ageL; omega), Option.bind_some]
  | succ d ih =>
    intro k i c hd hk hi h0 h1 he
    obtain ⟨k, rfl⟩ : ∃ m, k = m + 1 := ⟨k - 1, by omega⟩
    have hlt : i < l.length := by omega
    rw [rdT_cons hlt, cnt_cons] at he
    have nx := fun c h0 h1 he => ih k (i + 1) c (by omega) (by omega) (by omega) h0 h1 he
    rw [show ((i + 1 : Nat) : Int) = (i : Int) + 1 by omega] at nx
    simp only [laws_FnForgets.l2]
    rw [if_pos (by omega), if_pos (by omega), w64 (n := (i : Int) + 1) (by omega) (by omega), w64 (n := c + 1) (by omega) (by omega)]
    by_cases h : (rd_T49 l (i : Int)).f4 = true
    · rw [if_pos h] at he ⊢
      exact nx _ (by omega) (by omega) (by omega)
    · rw [if_neg h] at he ⊢
      exact nx _ (by omega) (by omega) (by omega)
theorem FnForgets_l1 (l f : List S49) (hl : fdbOk l = true) (hf : fdbOk f = true) (d : Nat) : ∀ (k : Nat) (a : List S49) (j : Int), j + d = 5 → 0 ≤ j → d + 60 ≤ k → fdbOk a = true → cnt a = cnt l → Old j a → laws_FnForgets.l1 k l f a j = some true := by
  have h12 := (fdbOk_iff.1 hl).2
  induction d with
  | zero =>
    intro k a j hj h0 hk ha hc ho
    obtain ⟨k, rfl⟩ : ∃ m, k = m + 1 := ⟨k - 1, by omega⟩
    obtain rfl : j = 5 := by omega
    simp only [laws_FnForgets.l1]
    rw [if_neg (by omega)]
    exact FnForgets_l2 l f a hl hf l.length k 0 0 (by omega) (by omega) (by omega) (by omega) (by omega) (by rw [old_cnt ho, hc, List.drop_zero]; omega)
  | succ d ih =>
    intro k a j hj h0 hk ha hc ho
    obtain ⟨k, rfl⟩ : ∃ m, k = m + 1 := ⟨k - 1, by omega⟩
    have ha12 := (fdbOk_iff.1 ha).2
    have hg := age_ok ha
    have hg12 := (fdbOk_iff.1 hg).2
    simp only [laws_FnForgets.l1]
    rw [if_pos (by omega), impl_AgeAll_eq (by omega) (by omega), Option.bind_some, impl_FdbOk_eq (by omega) (by omega), Option.bind_some, hg, if_pos rfl, w64 (by omega) (by omega)]
    exact ih k _ _ (by omega) (by omega) (by omega) hg (by rw [cnt_age, hc]) (old_age h0 ho)
theorem FnForgets_l0 (l f : List S49) (p : Int) (hl : fdbOk l = true) (hf : fdbOk f = true) (hp : ∀ e ∈ f, e.f4 = true ∨ e.f2 ≠ p) (d : Nat) : ∀ (k i : Nat), f.length - i = d → d + 80 ≤ k → laws_FnForgets.l0 k l p f (i : Int) = some true := by
  have h12 := (fdbOk_iff.1 hf).2
  induction d with
  | zero =>
    intro k i hd hk
    obtain ⟨k, rfl⟩ : ∃ m, k = m + 1 := ⟨k - 1, by omega⟩
    simp only [laws_FnForgets.l0]
    rw [if_neg (by omega)]
    exact FnForgets_l1 l f hl hf 5 k l 0 (by omega) (by omega) (by omega) hl rfl (old_ok hl)
  | succ d ih =>
    intro k i hd hk
    obtain ⟨k, rfl⟩ : ∃ m, k = m + 1 := ⟨k - 1, by omega⟩
    have nx := ih k (i + 1) (by omega) (by omega)
    rw [show ((i + 1 : Nat) : Int) = (i : Int) + 1 by omega] at nx
    simp only [laws_FnForgets.l0]
    have hm : rd_T49 f (i : Int) ∈ f := by
      have := rdT_cons (l := f) (n := i) (by omega)
      exact List.mem_of_mem_drop (i := i) (by rw [this]; simp)
    rw [if_pos (by omega), if_pos (by omega), w64 (n := (i : Int) + 1) (by omega) (by omega), nx]
    by_cases h : (rd_T49 f (i : Int)).f2 = p
    · rw [if_pos h, if_pos ((hp _ hm).resolve_right (fun g => g h))]
    · rw [if_neg h]
theorem FnForgets : laws_FnForgets.Pure := by
  intro l _ _ _
  refine ⟨l.length + 200, ?_⟩
  unfold laws_FnForgets.f laws_big.f
  rw [Option.bind_some]
  by_cases h : (l.length : Int) > 1048576
  · rw [if_pos (decide_eq_true h)]
  · rw [if_neg (by simpa using h)]
    obtain ⟨x, t, m, p, e, hx, _⟩ := spec_DrawFdb_eq (b := l) (by omega) (k := l.length + 200) (by omega)
    have h12 := (fdbOk_iff.1 hx).2
    have hL := learn_ok t m p hx
    have hL12 := (fdbOk_iff.1 hL).2
    have hF := flush_ok p hL
    have hF12 := (fdbOk_iff.1 hF).2
    simp only [e, Option.bind_some]
    rw [impl_Learn_eq t m p (by omega) (by omega), Option.bind_some, impl_FlushPort_eq p (by omega) (by omega), Option.bind_some]
    refine FnForgets_l0 x _ p hx hF (fun e he => ?_) _ (l.length + 200) 0 rfl (by omega)
    have := (List.mem_filter.1 he).2
    simp only [Bool.or_eq_true, Bool.not_eq_true', beq_eq_false_iff_ne] at this
    exact this

end Go.Proofs.Ytkcgghgkmgbphaa.Pure
