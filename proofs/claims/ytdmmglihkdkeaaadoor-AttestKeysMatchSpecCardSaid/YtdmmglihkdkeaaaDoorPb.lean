/- The plain laws of keys, signatures and heads: what the law computes is true, from some number of rounds on. Conditions: the texts are no longer than the form allows. -/
import Derived.Test.YtdmmglihkdkeaaaDoorPa
import Derived.Test.YtdmmglihkdkeaaaDoorPrx11
namespace Go.Proofs.YtdmmglihkdkeaaaDoor.Pr
open Go.RowKit Go.Proofs.YtdmmglihkdkeaaaDoorW.PrintWords Go.Proofs.YtdmmglihkdkeaaaDoorW.PrintLast Go.Proofs.YtdmmglihkdkeaaaDoorW.PrintMore
theorem keys_true (a0 a1 k0 k1 k2 m s0 s1 : ByteArray) (ha : a0.size ≤ 140737488351232) (_ha1 : a1.size ≤ 140737488351232) (h0 : k0.size ≤ 140737488351232) (h1 : k1.size ≤ 140737488351232) (h2 : k2.size ≤ 140737488351232) (_hm : m.size ≤ 140737488351232) (_hs0 : s0.size ≤ 140737488351232) (_hs1 : s1.size ≤ 140737488351232) : Gets (fun k => provenderlaw8_AttestKeysMatchSpec.f k a0 a1 k0 k1 k2 m s0 s1) true := by
  unfold provenderlaw8_AttestKeysMatchSpec.f
  refine Gets.bind (ref_NewKey a0 a1 ha) (Gets.bind (attest_NewKey_gets a0 a1 ha) (Gets.bind (ref_Sign k0 k1 k2 m h0 h1 h2) (Gets.bind (attest_Sign_gets k0 k1 k2 m h0 h1) (Gets.bind (ref_Signed k0 k1 k2 m s0 s1 h0 h1 h2) (Gets.bind (attest_Signed_gets k0 k1 k2 m s0 s1 h0 h1) ?_)))))
  simp only [beq_self_eq_true, Bool.and_self, if_true]
  exact Gets.bind told_gets (Gets.pure _)
end Go.Proofs.YtdmmglihkdkeaaaDoor.Pr
