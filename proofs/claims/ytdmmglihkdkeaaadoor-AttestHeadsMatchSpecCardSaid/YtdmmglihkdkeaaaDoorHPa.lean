/- That the two ways of signing a text answer alike: what keys, signatures and heads are, in plain Lean. Conditions: the texts are no longer than the form allows. -/
import Derived.Test.YtdmmglihkdkeaaaDoorHPrx9
import Derived.Test.YtdmmglihkdkeaaaDoorHPrx10
import Derived.Test.YtdmmglihkdkeaaaDoorHSp
namespace Go.Proofs.YtdmmglihkdkeaaaDoor.Pr
open Go.RowKit Go.Proofs.YtdmmglihkdkeaaaDoorW.PrintWords Go.Proofs.YtdmmglihkdkeaaaDoorW.PrintLast Go.Proofs.YtdmmglihkdkeaaaDoorW.PrintMore
/-- The text public: -/
def pubT : ByteArray := ⟨#[112, 117, 98, 108, 105, 99, 58]⟩
def nlT : ByteArray := ⟨#[10]⟩
def noT : ByteArray := ⟨#[]⟩
def faultV (m : ByteArray) (b : Bool) : Int := if b = true then 2 else (if (m.size : Int) > 1000000 then 3 else 0)
def keyV (k0 k1 k2 m : ByteArray) (full : Bool) : Int :=
  if nameB k0 = true then (if sumB k2 = true then (if full = true then faultV m (k2.toList != (sumHex (pubT ++ k1)).toList) else faultV m false) else faultV m true) else 8
def sigV (k2 m : ByteArray) : ByteArray := sumHex ((k2 ++ nlT) ++ m)
def signV (k0 k1 k2 m : ByteArray) : ByteArray × ByteArray × Int := if keyV k0 k1 k2 m true = 0 then (k0, sigV k2 m, 0) else (noT, noT, keyV k0 k1 k2 m true)
def signedV (k0 k1 k2 m s0 s1 : ByteArray) : Bool × Int := if keyV k0 k1 k2 m false = 0 then ((k0.toList == s0.toList && ((sigV k2 m).toList == s1.toList)), 0) else (false, keyV k0 k1 k2 m false)
theorem lowD_hex (U : Nat) : ∀ j, (lowD U j).all hexLo = true
  | 0 => rfl
  | j + 1 => by
    have h : ∀ q : Fin 16, hexLo (hexDig q.1) = true := by decide +kernel
    have h2 := h ⟨U / 16 ^ j % 16, Nat.mod_lt _ (by omega)⟩
    simp only [lowD, List.all_cons, lowD_hex U j, Bool.and_true]
    exact h2
theorem sumHex_sum (s : ByteArray) : sumB (sumHex s) = true := by
  unfold sumB sumHex
  rw [Bool.and_eq_true]
  refine ⟨?_, ?_⟩
  · rw [beq_iff_eq]
    show (lowD _ 16).toArray.size = 16
    rw [List.size_toArray, lowD_length]
  · simpa using lowD_hex (fnv s.data.toList) 16
theorem app_size (a b : ByteArray) : (a ++ b).size = a.size + b.size := ByteArray.size_append
theorem purl_Sum64_is (s : ByteArray) (h : s.size ≤ 9223372036854775807) : purl_Sum64.f s = some (sumHex s) := by
  unfold purl_Sum64.f
  rw [if_pos h]
theorem attest_public_is (s : ByteArray) (h : s.size ≤ 140737488351232) : attest_public.f s = some (sumHex (pubT ++ s)) := by
  unfold attest_public.f
  rw [if_pos (by omega), purl_Sum64_is _ (by rw [app_size, show ByteArray.size ⟨#[112, 117, 98, 108, 105, 99, 58]⟩ = 7 from rfl]; omega)]
  rfl
theorem ref_fault (m : ByteArray) (b : Bool) : Gets (fun k => provenderref8_keyFault.j0 k m b) (faultV m b) := by
  refine Gets.succ ?_
  simp only [provenderref8_keyFault.j0]
  unfold faultV
  by_cases h1 : b = true
  · simp only [if_pos h1]; exact Gets.pure _
  · simp only [if_neg h1]
    by_cases h3 : (m.size : Int) > 1000000
    · simp only [if_pos h3]; exact Gets.pure _
    · simp only [if_neg h3]; exact Gets.pure _
theorem attest_fault (m : ByteArray) (b : Bool) : Gets (fun k => attest_checkKey.j0 k m b) (faultV m b) := by
  refine Gets.succ ?_
  simp only [attest_checkKey.j0]
  unfold faultV
  by_cases h1 : b = true
  · simp only [if_pos h1]; exact Gets.pure _
  · simp only [if_neg h1]
    by_cases h3 : (m.size : Int) > 1000000
    · simp only [if_pos h3]; exact Gets.pure _
    · simp only [if_neg h3]; exact Gets.pure _
theorem ref_keyFault (k0 k1 k2 m : ByteArray) (full : Bool) (h0 : k0.size ≤ 140737488351232) (h1 : k1.size ≤ 140737488351232) (h2 : k2.size ≤ 140737488351232) : Gets (fun k => provenderref8_keyFault.f k k0 k1 k2 m full) (keyV k0 k1 k2 m full) := by
  unfold provenderref8_keyFault.f keyV
  refine Gets.bind (ref_isName k0 h0) ?_
  by_cases c1 : nameB k0 = true
  · simp only [if_pos c1]
    refine Gets.bind (ref_isSum k2 h2) ?_
    by_cases c2 : sumB k2 = true
    · simp only [if_pos c2]
      by_cases c3 : full = true
      · simp only [if_pos c3, if_pos (show 7 + k1.size ≤ 9223372036854775807 by omega)]
        exact Gets.bind (ref_Sum64 _ (by rw [app_size, show ByteArray.size ⟨#[112, 117, 98, 108, 105, 99, 58]⟩ = 7 from rfl]; omega)) (ref_fault _ _)
      · simp only [if_neg c3]; exact ref_fault _ _
    · simp only [if_neg c2]; exact ref_fault _ _
  · simp only [if_neg c1]; exact Gets.pure _
theorem attest_checkKey_gets (k0 k1 k2 m : ByteArray) (full : Bool) (h0 : k0.size ≤ 140737488351232) (h1 : k1.size ≤ 140737488351232) : Gets (fun k => attest_checkKey.f k k0 k1 k2 m full) (keyV k0 k1 k2 m full) := by
  unfold attest_checkKey.f keyV
  refine Gets.bind (attest_isName_gets k0 h0) ?_
  by_cases c1 : nameB k0 = true
  · simp only [if_pos c1]
    refine Gets.bind (Gets.of rfl) ?_
    by_cases c2 : sumB k2 = true
    · simp only [if_pos c2]
      by_cases c3 : full = true
      · simp only [if_pos c3, attest_public_is k1 (by omega), attest_equal.f, c2, Option.bind_some, sumHex_sum, Bool.true_and]
        exact attest_fault _ _
      · simp only [if_neg c3]; exact attest_fault _ _
    · simp only [if_neg c2]; exact attest_fault _ _
  · simp only [if_neg c1]; exact Gets.pure _
theorem keyV_sum {k0 k1 k2 m : ByteArray} {full : Bool} (h : keyV k0 k1 k2 m full = 0) : sumB k2 = true ∧ m.size ≤ 1000000 := by
  unfold keyV faultV at h
  refine ⟨?_, ?_⟩
  · by_cases c : sumB k2 = true
    · exact c
    · exfalso; revert h; rw [if_neg c]; split <;> simp
  · revert h
    repeat' split
    all_goals first | omega | (intro h; simp at h)
theorem ref_Sign (k0 k1 k2 m : ByteArray) (h0 : k0.size ≤ 140737488351232) (h1 : k1.size ≤ 140737488351232) (h2 : k2.size ≤ 140737488351232) : Gets (fun k => provenderref8_Sign.f k k0 k1 k2 m) (signV k0 k1 k2 m) := by
  unfold provenderref8_Sign.f signV
  refine Gets.bind (ref_keyFault k0 k1 k2 m true h0 h1 h2) ?_
  by_cases c : keyV k0 k1 k2 m true = 0
  · simp only [if_pos c]
    obtain ⟨hs, hm⟩ := keyV_sum c
    have hs := sumB_size hs
    unfold provenderref8_signature.f
    have e : (k2 ++ (⟨#[10]⟩ : ByteArray)).size = 17 := by rw [app_size, hs]; rfl
    simp only [if_pos (show k2.size + 1 ≤ 9223372036854775807 by omega), e, if_pos (show 17 + m.size ≤ 9223372036854775807 by omega)]
    refine Gets.bind (Gets.bind (ref_Sum64 _ (by rw [app_size, e]; omega)) (Gets.pure _)) (Gets.pure _)
  · simp only [if_neg c]; exact Gets.pure _
theorem attest_Sign_gets (k0 k1 k2 m : ByteArray) (h0 : k0.size ≤ 140737488351232) (h1 : k1.size ≤ 140737488351232) : Gets (fun k => attest_Sign.f k k0 k1 k2 m) (signV k0 k1 k2 m) := by
  unfold attest_Sign.f signV
  refine Gets.bind (attest_checkKey_gets k0 k1 k2 m true h0 h1) ?_
  by_cases c : keyV k0 k1 k2 m true = 0
  · simp only [if_pos c]
    obtain ⟨hs, hm⟩ := keyV_sum c
    have hs := sumB_size hs
    unfold attest_signature.f
    have e : (k2 ++ (⟨#[10]⟩ : ByteArray)).size = 17 := by rw [app_size, hs]; rfl
    simp only [if_pos (show k2.size + 1 ≤ 9223372036854775807 by omega), e, if_pos (show 17 + m.size ≤ 9223372036854775807 by omega), purl_Sum64_is _ (show ((k2 ++ (⟨#[10]⟩ : ByteArray)) ++ m).size ≤ 9223372036854775807 by rw [app_size, e]; omega)]
    exact Gets.pure _
  · simp only [if_neg c]; exact Gets.pure _
theorem ref_Signed (k0 k1 k2 m s0 s1 : ByteArray) (h0 : k0.size ≤ 140737488351232) (h1 : k1.size ≤ 140737488351232) (h2 : k2.size ≤ 140737488351232) : Gets (fun k => provenderref8_Signed.f k k0 k1 k2 m s0 s1) (signedV k0 k1 k2 m s0 s1) := by
  unfold provenderref8_Signed.f signedV
  refine Gets.bind (ref_keyFault k0 k1 k2 m false h0 h1 h2) ?_
  by_cases c : keyV k0 k1 k2 m false = 0
  · simp only [if_pos c]
    obtain ⟨hs, hm⟩ := keyV_sum c
    have hs := sumB_size hs
    unfold provenderref8_signature.f
    have e : (k2 ++ (⟨#[10]⟩ : ByteArray)).size = 17 := by rw [app_size, hs]; rfl
    simp only [if_pos (show k2.size + 1 ≤ 9223372036854775807 by omega), e, if_pos (show 17 + m.size ≤ 9223372036854775807 by omega)]
    refine Gets.bind (Gets.bind (ref_Sum64 _ (by rw [app_size, e]; omega)) (Gets.pure _)) (Gets.pure _)
  · simp only [if_neg c]; exact Gets.pure _
theorem attest_Signed_gets (k0 k1 k2 m s0 s1 : ByteArray) (h0 : k0.size ≤ 140737488351232) (h1 : k1.size ≤ 140737488351232) : Gets (fun k => attest_Signed.f k k0 k1 k2 m s0 s1) (signedV k0 k1 k2 m s0 s1) := by
  unfold attest_Signed.f signedV
  refine Gets.bind (attest_checkKey_gets k0 k1 k2 m false h0 h1) ?_
  by_cases c : keyV k0 k1 k2 m false = 0
  · simp only [if_pos c]
    obtain ⟨hs, hm⟩ := keyV_sum c
    have hs := sumB_size hs
    unfold attest_signature.f
    have e : (k2 ++ (⟨#[10]⟩ : ByteArray)).size = 17 := by rw [app_size, hs]; rfl
    simp only [if_pos (show k2.size + 1 ≤ 9223372036854775807 by omega), e, if_pos (show 17 + m.size ≤ 9223372036854775807 by omega), purl_Sum64_is _ (show ((k2 ++ (⟨#[10]⟩ : ByteArray)) ++ m).size ≤ 9223372036854775807 by rw [app_size, e]; omega)]
    exact Gets.pure _
  · simp only [if_neg c]; exact Gets.pure _
theorem told_gets : Gets (fun k => provenderlaw8_told.f k) true := by
  have h : provenderlaw8_told.f 30 = some true := by decide +kernel
  refine ⟨30, fun k hk => ?_⟩
  obtain ⟨d, rfl⟩ : ∃ d, k = 30 + d := ⟨k - 30, by omega⟩
  clear hk
  induction d with
  | zero => exact h
  | succ d ih => exact provenderlaw8_told.mono (30 + d) _ ih
end Go.Proofs.YtdmmglihkdkeaaaDoor.Pr
