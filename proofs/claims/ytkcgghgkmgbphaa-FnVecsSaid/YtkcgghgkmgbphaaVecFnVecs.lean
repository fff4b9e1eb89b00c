/- Vectors in plain words: what bytes a vector has; written and read it comes back, and read bytes are just those written. Conditions: lists of bytes (B), as each lemma names them. -/
import Derived.Test.YtkcgghgkmgbphaaBytesFnVecs
namespace Go.Proofs.Ytkcgghgkmgbphaa.Base
open Go.RowKit Go.Proofs.YtkcgghgkmgbphaaW.PrintWords

def vecBytes (r c h b p : Int) : List Int := tlv 2 (putInt r) ++ (tlv 2 (putInt c) ++ (tlv 2 (putInt h) ++ (tlv 2 (putInt b) ++ tlv 2 (putInt p))))
def putVec (r c h b p : Int) : List Int := bif vecOk r c h b p then vecBytes r c h b p else []
theorem numTlv_B (t v : Int) : B (tlv t (putInt v)) := tlv_B (putInt_B v) (by have := putInt_len v; omega)
theorem vecBytes_B (r c h b p : Int) : B (vecBytes r c h b p) := (numTlv_B _ _).app ((numTlv_B _ _).app ((numTlv_B _ _).app ((numTlv_B _ _).app (numTlv_B _ _))))
theorem vecBytes_len (r c h b p : Int) : 15 ≤ (vecBytes r c h b p).length ∧ (vecBytes r c h b p).length ≤ 30 := by
  have h1 := putInt_tlv_len 2 r
  have h2 := putInt_tlv_len 2 c
  have h3 := putInt_tlv_len 2 h
  have h4 := putInt_tlv_len 2 b
  have h5 := putInt_tlv_len 2 p
  unfold vecBytes
  simp only [List.length_append]
  omega
theorem putVec_B (r c h b p : Int) : B (putVec r c h b p) := by
  unfold putVec
  cases vecOk r c h b p with
  | false => exact B.nil
  | true => exact vecBytes_B _ _ _ _ _
theorem putVec_len (r c h b p : Int) : (putVec r c h b p).length ≤ 30 := by
  unfold putVec
  cases vecOk r c h b p with
  | false => simp
  | true => exact (vecBytes_len _ _ _ _ _).2
theorem xNum_put' {l p q : List Int} {t : Int} {v : Int} (ht : 0 ≤ t ∧ t ≤ 255) (hv : -2147483648 ≤ v ∧ v ≤ 2147483647) (e : l = p ++ (tlv t (putInt v) ++ q)) : xNum l (p.length : Int) false t = (v, ((p ++ tlv t (putInt v)).length : Int), false) := by
  rw [e, xNum_put p q v ht, clip_of hv.1 hv.2]
theorem getVec_put {r c h b p : Int} (ok : vecOk r c h b p = true) : getVec (putVec r c h b p) = (r, c, h, b, p, true) := by
  unfold putVec
  rw [ok, cond_true]
  have hok := ok
  simp only [vecOk, decide_eq_true_eq] at hok
  generalize hl : vecBytes r c h b p = l
  have e1 : xNum l 0 false 2 = (r, ((tlv 2 (putInt r)).length : Int), false) := xNum_put' (p := []) (q := tlv 2 (putInt c) ++ (tlv 2 (putInt h) ++ (tlv 2 (putInt b) ++ tlv 2 (putInt p)))) (by omega) (by omega) (by rw [← hl]; simp [vecBytes])
  have e2 : nextNum l (r, ((tlv 2 (putInt r)).length : Int), false) 2 = (c, ((tlv 2 (putInt r) ++ tlv 2 (putInt c)).length : Int), false) := xNum_put' (q := tlv 2 (putInt h) ++ (tlv 2 (putInt b) ++ tlv 2 (putInt p))) (by omega) (by omega) (by rw [← hl]; simp [vecBytes])
  have e3 : nextNum l (c, ((tlv 2 (putInt r) ++ tlv 2 (putInt c)).length : Int), false) 2 = (h, ((tlv 2 (putInt r) ++ tlv 2 (putInt c) ++ tlv 2 (putInt h)).length : Int), false) := xNum_put' (q := tlv 2 (putInt b) ++ tlv 2 (putInt p)) (by omega) (by omega) (by rw [← hl]; simp [vecBytes])
  have e4 : nextNum l (h, ((tlv 2 (putInt r) ++ tlv 2 (putInt c) ++ tlv 2 (putInt h)).length : Int), false) 2 = (b, ((tlv 2 (putInt r) ++ tlv 2 (putInt c) ++ tlv 2 (putInt h) ++ tlv 2 (putInt b)).length : Int), false) := xNum_put' (q := tlv 2 (putInt p)) (by omega) (by omega) (by rw [← hl]; simp [vecBytes])
  have e5 : nextNum l (b, ((tlv 2 (putInt r) ++ tlv 2 (putInt c) ++ tlv 2 (putInt h) ++ tlv 2 (putInt b)).length : Int), false) 2 = (p, ((tlv 2 (putInt r) ++ tlv 2 (putInt c) ++ tlv 2 (putInt h) ++ tlv 2 (putInt b) ++ tlv 2 (putInt p)).length : Int), false) := xNum_put' (q := []) (by omega) (by omega) (by rw [← hl]; simp [vecBytes])
  unfold getVec
  simp only [e1, e2, e3, e4, e5, ok]
  have hq : (((tlv 2 (putInt r) ++ tlv 2 (putInt c) ++ tlv 2 (putInt h) ++ tlv 2 (putInt b) ++ tlv 2 (putInt p)).length : Int) == (l.length : Int)) = true := beq_iff_eq.2 (by rw [← hl]; simp [vecBytes])
  rw [hq]; rfl
/-- The bytes that were read are those written of what was read. -/
theorem putVec_get {l : List Int} (hB : B l) (h : (getVec l).2.2.2.2.2 = true) : vecOk (getVec l).1 (getVec l).2.1 (getVec l).2.2.1 (getVec l).2.2.2.1 (getVec l).2.2.2.2.1 = true ∧ putVec (getVec l).1 (getVec l).2.1 (getVec l).2.2.1 (getVec l).2.2.2.1 (getVec l).2.2.2.2.1 = l := by
  have key : ∀ a b c d e : Int × Int × Bool, a = xNum l 0 false 2 → b = nextNum l a 2 → c = nextNum l b 2 → d = nextNum l c 2 → e = nextNum l d 2 → (!e.2.2 && (e.2.1 == (l.length : Int) && vecOk a.1 b.1 c.1 d.1 e.1)) = true → vecOk a.1 b.1 c.1 d.1 e.1 = true ∧ putVec a.1 b.1 c.1 d.1 e.1 = l := by
    intro a b c d e ha hb hc hd he hq
    simp only [Bool.and_eq_true, Bool.not_eq_true', beq_iff_eq] at hq
    obtain ⟨q1, q2, q3⟩ := hq
    obtain ⟨d1, d2, _⟩ := xNum_bytes hB (show (xNum l d.2.1 d.2.2 2).2.2 = false by rw [he] at q1; exact q1)
    obtain ⟨c1, c2, _⟩ := xNum_bytes hB (show (xNum l c.2.1 c.2.2 2).2.2 = false by rw [hd] at d1; exact d1)
    obtain ⟨b1, b2, _⟩ := xNum_bytes hB (show (xNum l b.2.1 b.2.2 2).2.2 = false by rw [hc] at c1; exact c1)
    obtain ⟨a1, a2, _⟩ := xNum_bytes hB (show (xNum l a.2.1 a.2.2 2).2.2 = false by rw [hb] at b1; exact b1)
    obtain ⟨_, z2, _⟩ := xNum_bytes hB (show (xNum l 0 false 2).2.2 = false by rw [ha] at a1; exact a1)
    rw [show xNum l d.2.1 d.2.2 2 = e from he.symm] at d2
    rw [show xNum l c.2.1 c.2.2 2 = d from hd.symm] at c2
    rw [show xNum l b.2.1 b.2.2 2 = c from hc.symm] at b2
    rw [show xNum l a.2.1 a.2.2 2 = b from hb.symm] at a2
    rw [← ha] at z2
    refine ⟨q3, ?_⟩
    unfold putVec
    rw [q3, cond_true]
    unfold vecBytes
    have hz : l.drop e.2.1.toNat = [] := List.drop_of_length_le (by omega)
    rw [hz, List.append_nil] at d2
    rw [d2] at c2
    rw [c2] at b2
    rw [b2] at a2
    rw [a2] at z2
    exact z2.symm
  have := key _ _ _ _ _ rfl rfl rfl rfl rfl
  unfold getVec at h ⊢
  simp only at h ⊢ this
  generalize hq : (!(nextNum l (nextNum l (nextNum l (nextNum l (xNum l 0 false 2) 2) 2) 2) 2).2.2 && ((nextNum l (nextNum l (nextNum l (nextNum l (xNum l 0 false 2) 2) 2) 2) 2).2.1 == (l.length : Int) && vecOk (xNum l 0 false 2).1 (nextNum l (xNum l 0 false 2) 2).1 (nextNum l (nextNum l (xNum l 0 false 2) 2) 2).1 (nextNum l (nextNum l (nextNum l (xNum l 0 false 2) 2) 2) 2).1 (nextNum l (nextNum l (nextNum l (nextNum l (xNum l 0 false 2) 2) 2) 2) 2).1)) = q at *
  cases q with
  | false => simp at h
  | true => exact this rfl
end Go.Proofs.Ytkcgghgkmgbphaa.Base
