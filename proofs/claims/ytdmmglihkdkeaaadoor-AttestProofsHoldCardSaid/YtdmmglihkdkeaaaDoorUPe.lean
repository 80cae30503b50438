/- What the trees of chapter 8 compute: halves, joined sums, roots and proofs, in plain Lean. Conditions: lists of at most 4096 sums. -/
import Derived.Test.YtdmmglihkdkeaaaDoorUPa
import Derived.Test.YtdmmglihkdkeaaaDoorUPrx0
import Derived.Test.YtdmmglihkdkeaaaDoorUPrx5
import Derived.Test.YtdmmglihkdkeaaaDoorUPrx7
import Derived.Test.YtdmmglihkdkeaaaDoorUPrx9
import Derived.Test.YtdmmglihkdkeaaaDoorUPrx10
import Derived.Test.YtdmmglihkdkeaaaDoorUPrx19
import Derived.Test.YtdmmglihkdkeaaaDoorUPrx20
import Derived.Test.YtdmmglihkdkeaaaDoorUPrx22
import Derived.Test.YtdmmglihkdkeaaaDoorUPrx24
namespace Go.Proofs.YtdmmglihkdkeaaaDoor.Pr
open Go.RowKit Go.Proofs.YtdmmglihkdkeaaaDoorW.PrintWords Go.Proofs.YtdmmglihkdkeaaaDoorW.PrintLast Go.Proofs.YtdmmglihkdkeaaaDoorW.PrintMore
def halfL : Nat → Nat → Nat → Nat
  | 0, _, x => x
  | f + 1, n, x => if 2 * x < n then halfL f n (2 * x) else x
def halfV (n : Nat) : Nat := halfL 62 n 1
theorem half_loop (n : Nat) (hn : n ≤ 1152921504606846976) (f : Nat) : ∀ (k x : Nat), 1 ≤ x → x ≤ 1152921504606846976 → n ≤ x * 2 ^ f → f < k →
    attest_half.l0 k n x = some ((halfL f n x : Nat) : Int) ∧ provenderref8_half.l0 k n x = some ((halfL f n x : Nat) : Int) ∧ 1 ≤ halfL f n x ∧ (x < n → halfL f n x < n) := by
  induction f with
  | zero =>
    intro k x h1 hx hnx hk
    obtain ⟨k, rfl⟩ : ∃ m, k = m + 1 := ⟨k - 1, by omega⟩
    have hc : ¬ wrap64 (2 * (x : Int)) < (n : Int) := by
      unfold wrap64
      omega
    simp only [attest_half.l0, provenderref8_half.l0, if_neg hc, halfL]
    exact ⟨trivial, trivial, h1, fun h => h⟩
  | succ f ih =>
    intro k x h1 hx hnx hk
    obtain ⟨k, rfl⟩ : ∃ m, k = m + 1 := ⟨k - 1, by omega⟩
    simp only [attest_half.l0, provenderref8_half.l0, halfL]
    by_cases c : 2 * x < n
    · have e1 : wrap64 (2 * (x : Int)) = ((2 * x : Nat) : Int) := by unfold wrap64; omega
      have e2 : wrap64 ((x : Int) * 2) = ((2 * x : Nat) : Int) := by unfold wrap64; omega
      rw [e1, e2, if_pos c, if_pos (by omega), if_pos (by omega)]
      have h := ih k (2 * x) (by omega) (by omega) (by rw [Nat.pow_succ] at hnx; have : x * (2 ^ f * 2) = 2 * x * 2 ^ f := by rw [Nat.mul_comm (2 ^ f) 2, ← Nat.mul_assoc, Nat.mul_comm x 2]
                                                       omega) (by omega)
      exact ⟨h.1, h.2.1, h.2.2.1, fun _ => h.2.2.2 c⟩
    · have hc : ¬ wrap64 (2 * (x : Int)) < (n : Int) := by
        unfold wrap64
        omega
      rw [if_neg hc, if_neg hc, if_neg c]
      exact ⟨rfl, rfl, h1, fun h => h⟩
theorem half_facts (n : Nat) (hn : n ≤ 1152921504606846976) : 1 ≤ halfV n ∧ (2 ≤ n → halfV n < n) := by
  have h := half_loop n hn 62 63 1 (by omega) (by omega) (by omega) (by omega)
  exact ⟨h.2.2.1, fun h2 => h.2.2.2 (by omega)⟩
theorem attest_half_gets (n : Nat) (hn : n ≤ 1152921504606846976) : Gets (fun k => attest_half.f k n) ((halfV n : Nat) : Int) :=
  ⟨63, fun k hk => (half_loop n hn 62 k 1 (by omega) (by omega) (by omega) (by omega)).1⟩
theorem ref_half_gets (n : Nat) (hn : n ≤ 1152921504606846976) : Gets (fun k => provenderref8_half.f k n) ((halfV n : Nat) : Int) :=
  ⟨63, fun k hk => (half_loop n hn 62 k 1 (by omega) (by omega) (by omega) (by omega)).2.1⟩
def oneT : ByteArray := ⟨#[1]⟩
def joinV (a b : ByteArray) : ByteArray := sumHex ((oneT ++ a) ++ b)
theorem ref_join (a b : ByteArray) (ha : a.size ≤ 16) (hb : b.size ≤ 16) : Gets (fun k => provenderref8_join.f k a b) (joinV a b) := by
  unfold provenderref8_join.f
  have e : ((⟨#[1]⟩ : ByteArray) ++ a).size = 1 + a.size := by rw [app_size]; rfl
  simp only [e, if_pos (show 1 + a.size ≤ 9223372036854775807 by omega), if_pos (show 1 + a.size + b.size ≤ 9223372036854775807 by omega)]
  exact Gets.bind (ref_Sum64 _ (by rw [app_size, e]; omega)) (Gets.pure _)
theorem attest_joined_is (a b : ByteArray) (ha : a.size ≤ 16) (hb : b.size ≤ 16) : attest_joined.f a b = some (joinV a b) := by
  unfold attest_joined.f
  have e : ((⟨#[1]⟩ : ByteArray) ++ a).size = 1 + a.size := by rw [app_size]; rfl
  rw [e, if_pos (show 1 + a.size ≤ 9223372036854775807 by omega), if_pos (show 1 + a.size + b.size ≤ 9223372036854775807 by omega), purl_Sum64_is _ (by rw [app_size, e]; omega)]
  rfl
theorem rdOf_get (l : List ByteArray) (i : Nat) (hi : i < l.length) : rdOf ByteArray.empty l (i : Int) = l[i] := by
  unfold rdOf
  simp [List.getD, hi]
/-- From place i on all are sums. -/
theorem sums_loop (l : List ByteArray) (hl : l.length ≤ 140737488355328) (hs : ∀ x ∈ l, x.size ≤ 140737488351232) (d : Nat) : ∀ (i : Nat), i + d = l.length →
    Gets (fun k => attest_checkSums.l0 k l (l.length : Int) i) (if (l.drop i).all sumB = true then 0 else 2) ∧ Gets (fun k => provenderref8_proofFault.l0 k l (l.length : Int) i) (if (l.drop i).all sumB = true then 0 else 2) ∧ Gets (fun k => provenderref8_leavesFault.l0 k l (l.length : Int) i) (if (l.drop i).all sumB = true then 0 else 2) := by
  induction d with
  | zero =>
    intro i hi
    have e : l.drop i = [] := List.drop_of_length_le (by omega)
    rw [e]
    refine ⟨Gets.succ ?_, Gets.succ ?_, Gets.succ ?_⟩
    · simp only [attest_checkSums.l0, if_neg (show ¬ (i : Int) < (l.length : Int) by omega)]; exact Gets.pure _
    · simp only [provenderref8_proofFault.l0, if_neg (show ¬ (i : Int) < (l.length : Int) by omega)]; exact Gets.pure _
    · simp only [provenderref8_leavesFault.l0, if_neg (show ¬ (i : Int) < (l.length : Int) by omega)]; exact Gets.pure _
  | succ d ih =>
    intro i hi
    have hi2 : i < l.length := by omega
    have h := ih (i + 1) (by omega)
    rw [List.drop_eq_getElem_cons hi2, List.all_cons]
    have hx : (l[i]).size ≤ 140737488351232 := hs _ (List.getElem_mem hi2)
    refine ⟨Gets.succ ?_, Gets.succ ?_, Gets.succ ?_⟩
    · simp only [attest_checkSums.l0, if_pos (show (i : Int) < (l.length : Int) by omega), if_pos (show (0 : Int) ≤ i by omega), rdOf_get l i hi2, wrap_succ i (by omega), attest_isSum.f, Option.bind_some]
      by_cases c : sumB l[i] = true
      · simp only [c, if_true, Bool.true_and]; exact h.1
      · simp only [Bool.not_eq_true _ ▸ c, Bool.false_and, Bool.false_eq_true, if_false]; exact Gets.pure _
    · simp only [provenderref8_proofFault.l0, if_pos (show (i : Int) < (l.length : Int) by omega), if_pos (show (0 : Int) ≤ i by omega), rdOf_get l i hi2, wrap_succ i (by omega)]
      refine Gets.bind (ref_isSum _ hx) ?_
      by_cases c : sumB l[i] = true
      · simp only [c, if_true, Bool.true_and]; exact h.2.1
      · simp only [Bool.not_eq_true _ ▸ c, Bool.false_and, Bool.false_eq_true, if_false]; exact Gets.pure _
    · simp only [provenderref8_leavesFault.l0, if_pos (show (i : Int) < (l.length : Int) by omega), if_pos (show (0 : Int) ≤ i by omega), rdOf_get l i hi2, wrap_succ i (by omega)]
      refine Gets.bind (ref_isSum _ hx) ?_
      by_cases c : sumB l[i] = true
      · simp only [c, if_true, Bool.true_and]; exact h.2.2
      · simp only [Bool.not_eq_true _ ▸ c, Bool.false_and, Bool.false_eq_true, if_false]; exact Gets.pure _
def sumsV (l : List ByteArray) (lim : Nat) : Int := if l.length > lim then 3 else if l.all sumB = true then 0 else 2
def Lst (l : List ByteArray) : Prop := l.length ≤ 140737488355328 ∧ ∀ x ∈ l, x.size ≤ 140737488351232
theorem attest_checkSums_gets {l : List ByteArray} (h : Lst l) (lim : Nat) : Gets (fun k => attest_checkSums.f k l lim) (sumsV l lim) := by
  have h2 := (sums_loop l h.1 h.2 l.length 0 (by omega)).1
  unfold attest_checkSums.f sumsV
  by_cases c : l.length > lim
  · simp only [if_pos c, if_pos (show (l.length : Int) > (lim : Int) by omega)]; exact Gets.pure _
  · simp only [if_neg c, if_neg (show ¬ (l.length : Int) > (lim : Int) by omega)]; exact h2
theorem ref_leavesFault {l : List ByteArray} (h : Lst l) : Gets (fun k => provenderref8_leavesFault.f k l) (sumsV l 4096) := by
  have h2 := (sums_loop l h.1 h.2 l.length 0 (by omega)).2.2
  unfold provenderref8_leavesFault.f sumsV
  by_cases c : l.length > 4096
  · simp only [if_pos c, if_pos (show (l.length : Int) > 4096 by omega)]; exact Gets.pure _
  · simp only [if_neg c, if_neg (show ¬ (l.length : Int) > 4096 by omega)]; exact h2
theorem sumsV_zero {l : List ByteArray} {lim : Nat} (h : sumsV l lim = 0) : l.length ≤ lim ∧ ∀ x ∈ l, sumB x = true := by
  unfold sumsV at h
  by_cases c : l.length > lim
  · rw [if_pos c] at h; exact absurd h (by omega)
  · rw [if_neg c] at h
    by_cases c2 : l.all sumB = true
    · exact ⟨by omega, fun x hx => List.all_eq_true.1 c2 x hx⟩
    · rw [if_neg c2] at h; exact absurd h (by omega)
theorem joinV_sum (a b : ByteArray) : sumB (joinV a b) = true := sumHex_sum _
theorem wrap_none : wrap64 (((0 : Nat) : Int) - 1) < 0 := by unfold wrap64; omega
theorem wrap_sub (a b : Nat) (h : b ≤ a) (ha : a ≤ 9223372036854775807) : wrap64 ((a : Int) - (b : Int)) = ((a - b : Nat) : Int) := by
  unfold wrap64
  omega
end Go.Proofs.YtdmmglihkdkeaaaDoor.Pr
