/- The plain law of kinds: what the law computes is true, from some number of rounds on. Conditions: none. -/
import Derived.Test.YtmnfjbmhlabdaaaDoorKGt
import Derived.Test.YtmnfjbmhlabdaaaDoorKPk9
namespace Go.Proofs.YtmnfjbmhlabdaaaDoor.Pr
open Go.RowKit Go.Proofs.YtmnfjbmhlabdaaaDoorW.PrintWords Go.Proofs.YtmnfjbmhlabdaaaDoorW.PrintLast Go.Proofs.YtmnfjbmhlabdaaaDoorW.PrintMore
set_option maxRecDepth 100000 in
theorem told_at : provenderlaw2_told.f 60 = some true := by kernel_rfl
theorem told_gets : Gets (fun k => provenderlaw2_told.f k) true := Gets.mono provenderlaw2_told.mono 60 told_at
theorem rp_step (k : Nat) (a0 : ByteArray) (i : Nat) (b : List UInt8) (hi : i < 5) (hb : (rdOf ByteArray.empty kindsB (i : Int)).toList = b) : provenderref2_place.l0 (k + 1) a0 kindsB 5 (i : Int) = if b = a0.toList then some (i : Int) else provenderref2_place.l0 k a0 kindsB 5 ((i + 1 : Nat) : Int) := by
  simp only [provenderref2_place.l0]
  rw [if_pos (show (i : Int) < 5 by omega), if_pos (show (0 : Int) ≤ (i : Int) by omega), if_pos (show (i : Int) < ((kindsB.length : Nat) : Int) from (show (i : Int) < 5 by omega)), hb, wrap_succ i (by omega)]
theorem ref_place (a0 : ByteArray) : Gets (fun k => provenderref2_place.f k a0) (placeI a0.toList) := by
  refine ⟨6, fun k hk => ?_⟩
  obtain ⟨k, rfl⟩ : ∃ m, k = m + 6 := ⟨k - 6, by omega⟩
  have h0 := rp_step (k + 5) a0 0 [100, 111, 116, 116, 101, 100] (by omega) (by kernel_rfl)
  have h1 := rp_step (k + 4) a0 1 [114, 101, 118, 105, 115, 101, 100] (by omega) (by kernel_rfl)
  have h2 := rp_step (k + 3) a0 2 [115, 116, 97, 103, 101, 100] (by omega) (by kernel_rfl)
  have h3 := rp_step (k + 2) a0 3 [113, 117, 97, 108, 105, 102, 105, 101, 100] (by omega) (by kernel_rfl)
  have h4 := rp_step (k + 1) a0 4 [112, 108, 97, 105, 110] (by omega) (by kernel_rfl)
  show provenderref2_place.l0 (k + 5 + 1) a0 kindsB 5 ((0 : Nat) : Int) = _
  generalize a0.toList = a at *
  unfold placeI placeN
  by_cases g0 : a = [100, 111, 116, 116, 101, 100]
  · rw [h0, if_pos g0.symm, if_pos g0]; rfl
  rw [h0, if_neg (fun e => g0 e.symm), if_neg g0, h1]
  by_cases g1 : a = [114, 101, 118, 105, 115, 101, 100]
  · rw [if_pos g1.symm, if_pos g1]; rfl
  rw [if_neg (fun e => g1 e.symm), if_neg g1, h2]
  by_cases g2 : a = [115, 116, 97, 103, 101, 100]
  · rw [if_pos g2.symm, if_pos g2]; rfl
  rw [if_neg (fun e => g2 e.symm), if_neg g2, h3]
  by_cases g3 : a = [113, 117, 97, 108, 105, 102, 105, 101, 100]
  · rw [if_pos g3.symm, if_pos g3]; rfl
  rw [if_neg (fun e => g3 e.symm), if_neg g3, h4]
  by_cases g4 : a = [112, 108, 97, 105, 110]
  · rw [if_pos g4.symm, if_pos g4]; rfl
  rw [if_neg (fun e => g4 e.symm), if_neg g4]
  rfl
/-- A kind's rule, and the error. -/
def ruleB (a0 : ByteArray) : ByteArray × Int × Bool × Bool × Int × Int := if placeN a0.toList < 5 then ((ruleAt (placeN a0.toList)).1, (ruleAt (placeN a0.toList)).2.1, (ruleAt (placeN a0.toList)).2.2.1, (ruleAt (placeN a0.toList)).2.2.2.1, (ruleAt (placeN a0.toList)).2.2.2.2, 0) else (⟨#[]⟩, 0, false, false, 0, 7)
theorem purl_Rule_eq (a0 : ByteArray) : purl_Rule.f a0 = some (ruleB a0) := by
  unfold purl_Rule.f ruleB
  split <;> rfl
theorem ref_Rule (a0 : ByteArray) : Gets (fun k => provenderref2_Rule.f k a0) (ruleB a0) := by
  unfold provenderref2_Rule.f
  refine Gets.bind (ref_place a0) (Gets.of ?_)
  unfold ruleB placeI
  have h := placeN_le a0.toList
  generalize placeN a0.toList = p at *
  obtain rfl | rfl | rfl | rfl | rfl | rfl : p = 0 ∨ p = 1 ∨ p = 2 ∨ p = 3 ∨ p = 4 ∨ p = 5 := by omega
  all_goals rfl
theorem equal_kinds : Gets (fun k => slices_Equal_string_string.f k kindsB kindsB) true := Gets.mono (slices_Equal_string_string.mono kindsB kindsB) 10 (by kernel_rfl)
theorem kinds_true (a0 : ByteArray) (_h : a0.size ≤ 140737488351232) : Gets (fun k => provenderlaw2_PurlKindsMatchSpec.f k a0) true := by
  unfold provenderlaw2_PurlKindsMatchSpec.f
  refine Gets.bind (ref_Rule a0) (Gets.bind (Gets.of (purl_Rule_eq a0)) ?_)
  simp only [beq_self_eq_true, Bool.and_self, if_true]
  refine Gets.bind (Gets.of (show purl_Kinds.f = some kindsB from rfl)) (Gets.bind (Gets.of (show provenderref2_Kinds.f = some kindsB from rfl)) (Gets.bind equal_kinds ?_))
  simp only [if_true]
  exact Gets.bind told_gets (Gets.pure _)
end Go.Proofs.YtmnfjbmhlabdaaaDoor.Pr
