/- The plain law of heads: what the law computes is true, from some number of rounds on. Conditions: the texts are no longer than the form allows. -/
import Derived.Test.YtdmmglihkdkeaaaDoorHPa
import Derived.Test.YtdmmglihkdkeaaaDoorHPrx0
import Derived.Test.YtdmmglihkdkeaaaDoorHPrx5
import Derived.Test.YtdmmglihkdkeaaaDoorHPrx7
import Derived.Test.YtdmmglihkdkeaaaDoorHPrx9
import Derived.Test.YtdmmglihkdkeaaaDoorHPrx10
import Derived.Test.YtdmmglihkdkeaaaDoorHPrx18
import Derived.Lib.ItoaLen
namespace Go.Proofs.YtdmmglihkdkeaaaDoor.Pr
open Go.RowKit Go.Proofs.YtdmmglihkdkeaaaDoorW.PrintWords Go.Proofs.YtdmmglihkdkeaaaDoorW.PrintLast Go.Proofs.YtdmmglihkdkeaaaDoorW.PrintMore
def headV (n : Int) (r : ByteArray) : Int := if n < 0 then 9 else if n > 1073741824 then 9 else if sumB r = true then 0 else 2
theorem ref_headFault (n : Int) (r : ByteArray) (hr : r.size ≤ 140737488351232) : Gets (fun k => provenderref8_headFault.f k n r) (headV n r) := by
  have hj : ∀ b : Bool, Gets (fun k => provenderref8_headFault.j0 k r b) (if b = true then 9 else if sumB r = true then 0 else 2) := by
    intro b
    refine Gets.succ ?_
    simp only [provenderref8_headFault.j0]
    by_cases c : b = true
    · simp only [if_pos c]; exact Gets.pure _
    · simp only [if_neg c]
      refine Gets.bind (ref_isSum r hr) ?_
      by_cases c2 : sumB r = true
      · simp only [if_pos c2]; exact Gets.pure _
      · simp only [if_neg c2]; exact Gets.pure _
  unfold provenderref8_headFault.f headV
  by_cases c : n < 0
  · simp only [if_pos c]; exact hj true
  · simp only [if_neg c]
    have h := hj (decide (n > 1073741824))
    simpa only [decide_eq_true_eq] using h
theorem attest_checkHead_gets (n : Int) (r : ByteArray) : Gets (fun k => attest_checkHead.f k n r) (headV n r) := by
  have hj : ∀ b : Bool, Gets (fun k => attest_checkHead.j0 k r b) (if b = true then 9 else if sumB r = true then 0 else 2) := by
    intro b
    refine Gets.succ ?_
    simp only [attest_checkHead.j0]
    by_cases c : b = true
    · simp only [if_pos c]; exact Gets.pure _
    · simp only [if_neg c]
      refine Gets.bind (a := sumB r) (Gets.of rfl) ?_
      by_cases c2 : sumB r = true
      · simp only [if_pos c2]; exact Gets.pure _
      · simp only [if_neg c2]; exact Gets.pure _
  unfold attest_checkHead.f headV
  by_cases c : n < 0
  · simp only [if_pos c]; exact hj true
  · simp only [if_neg c]
    have h := hj (decide (n > 1073741824))
    simpa only [decide_eq_true_eq] using h
theorem headText_some (n : Int) (r : ByteArray) (h : headV n r = 0) : ∃ t, provenderref8_headText.f n r = some t ∧ attest_headText.f n r = some t := by
  have hn : 0 ≤ n ∧ n ≤ 1073741824 ∧ sumB r = true := by
    unfold headV at h
    revert h
    repeat' split
    all_goals first | (intro h; exact ⟨by omega, by omega, by assumption⟩) | (intro h; exact absurd h (by omega))
  have hr := sumB_size hn.2.2
  have hi : lib_Itoa.f n = some ⟨(Lib.itoa n).toArray⟩ := by unfold lib_Itoa.f; rw [if_pos (by omega)]
  have hl := Lib.itoa_length_le n (by omega) (by omega)
  have hz : ByteArray.size ⟨(Lib.itoa n).toArray⟩ ≤ 21 := hl
  have ha : ∃ t, attest_headText.f n r = some t := by
    apply Exists.intro
    unfold attest_headText.f
    rw [hi, Option.bind_some, if_pos (by omega), if_pos (by rw [app_size, show ByteArray.size ⟨#[104, 101, 97, 100, 32]⟩ = 5 from rfl]; omega), if_pos (by rw [app_size, app_size, show ByteArray.size ⟨#[104, 101, 97, 100, 32]⟩ = 5 from rfl, show ByteArray.size ⟨#[32]⟩ = 1 from rfl]; omega)]
  obtain ⟨t, ht⟩ := ha
  exact ⟨t, ht, ht⟩
def headT (n : Int) (r : ByteArray) : ByteArray := (attest_headText.f n r).getD noT
theorem headT_is {n : Int} {r : ByteArray} (h : headV n r = 0) : provenderref8_headText.f n r = some (headT n r) ∧ attest_headText.f n r = some (headT n r) := by
  obtain ⟨t, h1, h2⟩ := headText_some n r h
  unfold headT
  rw [h2]
  exact ⟨h1, rfl⟩
def signHeadV (k0 k1 k2 : ByteArray) (n : Int) (r : ByteArray) : Int × ByteArray × ByteArray × ByteArray × Int :=
  if headV n r = 0 then (if (signV k0 k1 k2 (headT n r)).2.2 = 0 then (n, r, (signV k0 k1 k2 (headT n r)).1, (signV k0 k1 k2 (headT n r)).2.1, 0) else (0, noT, noT, noT, (signV k0 k1 k2 (headT n r)).2.2)) else (0, noT, noT, noT, headV n r)
def headSignedV (k0 k1 k2 : ByteArray) (n : Int) (r s0 s1 : ByteArray) : Bool × Int := if headV n r = 0 then ((signedV k0 k1 k2 (headT n r) s0 s1).1, (signedV k0 k1 k2 (headT n r) s0 s1).2) else (false, headV n r)
section
variable (k0 k1 k2 : ByteArray) (n : Int) (r : ByteArray) (h0 : k0.size ≤ 140737488351232) (h1 : k1.size ≤ 140737488351232) (h2 : k2.size ≤ 140737488351232) (hr : r.size ≤ 140737488351232)
include h0 h1
theorem attest_SignHead_gets : Gets (fun k => attest_SignHead.f k k0 k1 k2 n r) (signHeadV k0 k1 k2 n r) := by
  unfold attest_SignHead.f signHeadV
  refine Gets.bind (attest_checkHead_gets n r) ?_
  by_cases c : headV n r = 0
  · simp only [if_pos c, (headT_is c).2, Option.bind_some]
    refine Gets.bind (attest_Sign_gets k0 k1 k2 _ h0 h1) ?_
    by_cases c2 : (signV k0 k1 k2 (headT n r)).2.2 = 0
    · simp only [if_pos c2]; exact Gets.pure _
    · simp only [if_neg c2]; exact Gets.pure _
  · simp only [if_neg c]; exact Gets.pure _
theorem attest_HeadSigned_gets (s0 s1 : ByteArray) : Gets (fun k => attest_HeadSigned.f k k0 k1 k2 n r s0 s1) (headSignedV k0 k1 k2 n r s0 s1) := by
  unfold attest_HeadSigned.f headSignedV
  refine Gets.bind (attest_checkHead_gets n r) ?_
  by_cases c : headV n r = 0
  · simp only [if_pos c, (headT_is c).2, Option.bind_some]
    exact Gets.bind (attest_Signed_gets k0 k1 k2 _ s0 s1 h0 h1) (Gets.pure _)
  · simp only [if_neg c]; exact Gets.pure _
include h2 hr
theorem ref_SignHead : Gets (fun k => provenderref8_SignHead.f k k0 k1 k2 n r) (signHeadV k0 k1 k2 n r) := by
  unfold provenderref8_SignHead.f signHeadV
  refine Gets.bind (ref_headFault n r hr) ?_
  by_cases c : headV n r = 0
  · simp only [if_pos c, (headT_is c).1, Option.bind_some]
    refine Gets.bind (ref_Sign k0 k1 k2 _ h0 h1 h2) ?_
    by_cases c2 : (signV k0 k1 k2 (headT n r)).2.2 = 0
    · simp only [if_pos c2]; exact Gets.pure _
    · simp only [if_neg c2]; exact Gets.pure _
  · simp only [if_neg c]; exact Gets.pure _
theorem ref_HeadSigned (s0 s1 : ByteArray) : Gets (fun k => provenderref8_HeadSigned.f k k0 k1 k2 n r s0 s1) (headSignedV k0 k1 k2 n r s0 s1) := by
  unfold provenderref8_HeadSigned.f headSignedV
  refine Gets.bind (ref_headFault n r hr) ?_
  by_cases c : headV n r = 0
  · simp only [if_pos c, (headT_is c).1, Option.bind_some]
    exact Gets.bind (ref_Signed k0 k1 k2 _ s0 s1 h0 h1 h2) (Gets.pure _)
  · simp only [if_neg c]; exact Gets.pure _
end
theorem signHead_zero {k0 k1 k2 : ByteArray} {n : Int} {r : ByteArray} (h : (signHeadV k0 k1 k2 n r).2.2.2.2 = 0) : headSignedV k0 k1 k2 (signHeadV k0 k1 k2 n r).1 (signHeadV k0 k1 k2 n r).2.1 (signHeadV k0 k1 k2 n r).2.2.1 (signHeadV k0 k1 k2 n r).2.2.2.1 = (true, 0) := by
  unfold signHeadV at h ⊢
  by_cases c : headV n r = 0
  · rw [if_pos c] at h ⊢
    by_cases c2 : (signV k0 k1 k2 (headT n r)).2.2 = 0
    · rw [if_pos c2]
      unfold headSignedV
      rw [if_pos c]
      unfold signV at c2 ⊢
      by_cases c3 : keyV k0 k1 k2 (headT n r) true = 0
      · rw [if_pos c3]
        have c4 : keyV k0 k1 k2 (headT n r) false = 0 := by
          have hsum := (keyV_sum c3).1
          have hm : faultV (headT n r) false = 0 := by
            unfold faultV
            rw [if_neg (by simp), if_neg (by have := (keyV_sum c3).2; omega)]
          unfold keyV at c3 ⊢
          by_cases d1 : nameB k0 = true
          · rw [if_pos d1, if_pos hsum, if_neg (by simp)]
            exact hm
          · rw [if_neg d1] at c3; exact absurd c3 (by omega)
        unfold signedV
        rw [if_pos c4]
        simp
      · rw [if_neg c3] at c2; exact absurd c2 c3
    · rw [if_neg c2] at h; exact absurd h c2
  · rw [if_neg c] at h; exact absurd h c
theorem heads_true (k0 k1 k2 : ByteArray) (n : Int) (r : ByteArray) (n2 : Int) (r2 s0 s1 : ByteArray) (h0 : k0.size ≤ 140737488351232) (h1 : k1.size ≤ 140737488351232) (h2 : k2.size ≤ 140737488351232) (_hn : -9223372036854775808 ≤ n ∧ n ≤ 9223372036854775807) (hr : r.size ≤ 140737488351232) (_hn2 : -9223372036854775808 ≤ n2 ∧ n2 ≤ 9223372036854775807) (hr2 : r2.size ≤ 140737488351232) (_hs0 : s0.size ≤ 140737488351232) (_hs1 : s1.size ≤ 140737488351232) : Gets (fun k => provenderlaw8_AttestHeadsMatchSpec.f k k0 k1 k2 n r n2 r2 s0 s1) true := by
  unfold provenderlaw8_AttestHeadsMatchSpec.f
  refine Gets.bind (ref_SignHead k0 k1 k2 n r h0 h1 h2 hr) (Gets.bind (attest_SignHead_gets k0 k1 k2 n r h0 h1) (Gets.bind (ref_HeadSigned k0 k1 k2 n2 r2 h0 h1 h2 hr2 s0 s1) (Gets.bind (attest_HeadSigned_gets k0 k1 k2 n2 r2 h0 h1 s0 s1) ?_)))
  simp only [beq_self_eq_true, Bool.not_true, Bool.or_self, bne_self_eq_false, Bool.false_eq_true, if_false, if_true]
  refine Gets.succ ?_
  simp only [provenderlaw8_AttestHeadsMatchSpec.j0, Bool.false_eq_true, if_false]
  by_cases c : (signHeadV k0 k1 k2 n r).2.2.2.2 = 0
  · simp only [if_pos c]
    refine Gets.bind (attest_HeadSigned_gets k0 k1 k2 _ _ h0 h1 _ _) ?_
    rw [signHead_zero c]
    simp only [if_true]
    exact Gets.bind told_gets (Gets.pure _)
  · simp only [if_neg c]
    exact Gets.bind told_gets (Gets.pure _)
end Go.Proofs.YtdmmglihkdkeaaaDoor.Pr
