/- The plain laws of signatures and heads: what the law computes is true, from some number of rounds on. Conditions: the texts are no longer than the form allows. -/
import Derived.Test.YtdmmglihkdkeaaaDoorPa
import Derived.Test.YtdmmglihkdkeaaaDoorPrx12
namespace Go.Proofs.YtdmmglihkdkeaaaDoor.Pr
open Go.RowKit Go.Proofs.YtdmmglihkdkeaaaDoorW.PrintWords Go.Proofs.YtdmmglihkdkeaaaDoorW.PrintLast Go.Proofs.YtdmmglihkdkeaaaDoorW.PrintMore
theorem newKeyV_zero {n s : ByteArray} (h : (newKeyV n s).2.2.2 = 0) : newKeyV n s = (n, s, sumHex (pubT ++ s), 0) ∧ nameB n = true := by
  unfold newKeyV at h ⊢
  by_cases h1 : nameB n = true
  · rw [if_pos h1] at h ⊢
    by_cases h2 : s.toList = ([] : List UInt8)
    · rw [if_pos h2] at h; simp at h
    · rw [if_neg h2] at h ⊢
      by_cases h3 : (s.size : Int) > 60
      · rw [if_pos h3] at h; simp at h
      · rw [if_neg h3]; exact ⟨rfl, h1⟩
  · rw [if_neg h1] at h; simp at h
theorem keyV_new {n s : ByteArray} (h1 : nameB n = true) (m : ByteArray) : keyV n s (sumHex (pubT ++ s)) m true = faultV m false := by
  unfold keyV
  rw [if_pos h1, if_pos (sumHex_sum _), if_pos rfl]
  simp
theorem keyV_open {n s : ByteArray} (h1 : nameB n = true) (x m : ByteArray) : keyV n x (sumHex s) m false = faultV m false := by
  unfold keyV
  rw [if_pos h1, if_pos (sumHex_sum _), if_neg (by simp)]
theorem faultV_ways (m : ByteArray) : faultV m false = 0 ∨ faultV m false = 3 := by
  unfold faultV
  rw [if_neg (by simp)]
  split <;> simp
theorem signatures_true (a0 a1 a2 a3 k0 k1 k2 : ByteArray) (ha : a0.size ≤ 140737488351232) (_ha1 : a1.size ≤ 140737488351232) (_ha2 : a2.size ≤ 140737488351232) (_ha3 : a3.size ≤ 140737488351232) (h0 : k0.size ≤ 140737488351232) (h1 : k1.size ≤ 140737488351232) (h2 : k2.size ≤ 140737488351232) : Gets (fun k => provenderlaw8_AttestSignaturesHold.f k a0 a1 a2 a3 k0 k1 k2) true := by
  unfold provenderlaw8_AttestSignaturesHold.f
  refine Gets.bind (attest_NewKey_gets a0 a1 ha) ?_
  by_cases c : (newKeyV a0 a1).2.2.2 = 0
  · obtain ⟨e, hn⟩ := newKeyV_zero c
    rw [e]
    simp only [if_true]
    refine Gets.bind (attest_Sign_gets a0 a1 (sumHex (pubT ++ a1)) a2 ha _ha1) ?_
    unfold signV
    rw [keyV_new hn]
    rcases faultV_ways a2 with hf | hf
    · rw [hf]
      simp only [if_true]
      have z : ByteArray.size (⟨#[]⟩ : ByteArray) ≤ 140737488351232 := by show 0 ≤ 140737488351232; omega
      refine Gets.bind (attest_Signed_gets a0 ⟨#[]⟩ (sumHex (pubT ++ a1)) a2 a0 _ ha z) ?_
      have hs := sumHex_size (pubT ++ a1)
      refine Gets.bind (ref_Signed a0 ⟨#[]⟩ (sumHex (pubT ++ a1)) a3 a0 _ ha z (by omega)) ?_
      refine Gets.bind (attest_Signed_gets a0 ⟨#[]⟩ (sumHex (pubT ++ a1)) a3 a0 _ ha z) ?_
      refine Gets.bind (ref_Signed k0 k1 k2 a2 a0 _ h0 h1 h2) ?_
      refine Gets.bind (attest_Signed_gets k0 k1 k2 a2 a0 _ h0 h1) ?_
      have e1 : signedV a0 ⟨#[]⟩ (sumHex (pubT ++ a1)) a2 a0 (sigV (sumHex (pubT ++ a1)) a2) = (true, 0) := by
        unfold signedV
        rw [keyV_open hn, hf]
        simp
      rw [e1]
      simp only [if_true, beq_self_eq_true, ite_self]
      exact Gets.bind told_gets (Gets.pure _)
    · rw [hf]
      simp only [show ¬ ((3 : Int) = 0) by omega, if_false, if_true]
      exact Gets.bind told_gets (Gets.pure _)
  · simp only [if_neg c]
    refine Gets.bind (ref_NewKey a0 a1 ha) ?_
    simp only [if_true]
    exact Gets.bind told_gets (Gets.pure _)
end Go.Proofs.YtdmmglihkdkeaaaDoor.Pr
