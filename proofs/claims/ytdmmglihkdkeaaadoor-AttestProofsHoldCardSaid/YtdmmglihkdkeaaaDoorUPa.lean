/- That the two ways of signing a text answer alike: what keys, signatures and heads are, in plain Lean. Conditions: the texts are no longer than the form allows. -/
import Derived.Test.YtdmmglihkdkeaaaDoorUPrx9
import Derived.Test.YtdmmglihkdkeaaaDoorUPrx10
import Derived.Test.YtdmmglihkdkeaaaDoorUSp
namespace Go.Proofs.YtdmmglihkdkeaaaDoor.Pr
open Go.RowKit Go.Proofs.YtdmmglihkdkeaaaDoorW.PrintWords Go.Proofs.YtdmmglihkdkeaaaDoorW.PrintLast Go.Proofs.YtdmmglihkdkeaaaDoorW.PrintMore
def noT : ByteArray := ⟨#[]⟩
theorem lowD_hex (U : Nat) : ∀ j, (lowD U j).all hexLo = true
  | 0 => rfl
  | j + 1 => by
    have h : ∀ q : Fin 16, hexLo (hexDig q.1) = true := by decide +kernel
    have h2 := h ⟨U / 16 ^ j % 16, Nat.mod_lt _ (by omega)⟩
    simp only [lowD, List.all_cons, lowD_hex U j, Bool.and_true]
    exact h2
theorem sumHex_sum (s : ByteArray) : sumB (sumHex s) = true := by
  unfold sumB sumHex
  rw [Bool.and_eq_true]
  refine ⟨?_, ?_⟩
  · rw [beq_iff_eq]
    show (lowD _ 16).toArray.size = 16
    rw [List.size_toArray, lowD_length]
  · simpa using lowD_hex (fnv s.data.toList) 16
theorem app_size (a b : ByteArray) : (a ++ b).size = a.size + b.size := ByteArray.size_append
theorem purl_Sum64_is (s : ByteArray) (h : s.size ≤ 9223372036854775807) : purl_Sum64.f s = some (sumHex s) := by
  unfold purl_Sum64.f
  rw [if_pos h]
theorem told_gets : Gets (fun k => provenderlaw8_told.f k) true := by
  have h : provenderlaw8_told.f 30 = some true := by decide +kernel
  refine ⟨30, fun k hk => ?_⟩
  obtain ⟨d, rfl⟩ : ∃ d, k = 30 + d := ⟨k - 30, by omega⟩
  clear hk
  induction d with
  | zero => exact h
  | succ d ih => exact provenderlaw8_told.mono (30 + d) _ ih
end Go.Proofs.YtdmmglihkdkeaaaDoor.Pr
