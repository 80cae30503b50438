/- The plain law of proofs: what the law computes is true, from some number of rounds on. Conditions: the texts and lists are no longer than the form allows. -/
import Derived.Test.YtdmmglihkdkeaaaDoorQPf
namespace Go.Proofs.YtdmmglihkdkeaaaDoor.Pr
open Go.RowKit
theorem lst_of {l : List ByteArray} {e : TypeId} (he : Tryd.prog.bytesOf e = 16) (h : l.length * Tryd.prog.bytesOf e ≤ 140737488351232 ∧ l.length ≤ maxLen ∧ ∀ a ∈ l, a.size ≤ 140737488351232) : Lst l := by
  refine ⟨?_, h.2.2⟩
  have h1 := h.1
  rw [he] at h1
  omega
theorem proofs_true (a0 a1 a2 : ByteArray) (a3 a4 a5 : Int) (l : List ByteArray) (h0 : a0.size ≤ 140737488351232) (h1 : a1.size ≤ 140737488351232) (h2 : a2.size ≤ 140737488351232) (_h3 : -9223372036854775808 ≤ a3 ∧ a3 ≤ 9223372036854775807) (_h4 : -9223372036854775808 ≤ a4 ∧ a4 ≤ 9223372036854775807) (_h5 : -9223372036854775808 ≤ a5 ∧ a5 ≤ 9223372036854775807) (h6 : l.length * Tryd.prog.bytesOf 9 ≤ 140737488351232 ∧ l.length ≤ maxLen ∧ ∀ a ∈ l, a.size ≤ 140737488351232) : Gets (fun k => provenderlaw8_AttestProofsMatchSpec.f k a0 a1 a2 a3 a4 a5 l) true := by
  have hl : Lst l := lst_of (by kernel_rfl) h6
  unfold provenderlaw8_AttestProofsMatchSpec.f
  obtain ⟨r, hr, hr'⟩ := Included_both a0 a1 a3 a5 l h0 h1 hl
  obtain ⟨q, hq, hq'⟩ := Consistent_both a2 a0 a4 a5 l h2 h0 hl
  refine Gets.bind hr (Gets.bind hr' (Gets.bind hq (Gets.bind hq' ?_)))
  simp only [beq_self_eq_true, if_true]
  exact Gets.bind told_gets (Gets.pure _)
end Go.Proofs.YtdmmglihkdkeaaaDoor.Pr
