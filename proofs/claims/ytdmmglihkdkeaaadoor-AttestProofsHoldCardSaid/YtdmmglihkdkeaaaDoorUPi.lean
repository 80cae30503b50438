/- The plain law of roots: what the law computes is true, from some number of rounds on. Conditions: the texts and lists are no longer than the form allows. -/
import Derived.Test.YtdmmglihkdkeaaaDoorUPh
import Derived.Test.YtdmmglihkdkeaaaDoorUPrx0
import Derived.Test.YtdmmglihkdkeaaaDoorUPrx10
import Derived.Test.YtdmmglihkdkeaaaDoorUPrx24
import Derived.Test.YtdmmglihkdkeaaaDoorUPrx25
import Derived.Test.YtdmmglihkdkeaaaDoorUPrx26
import Derived.Test.YtdmmglihkdkeaaaDoorUPrx27
import Derived.Test.YtdmmglihkdkeaaaDoorUPrx28
namespace Go.Proofs.YtdmmglihkdkeaaaDoor.Pr
open Go.RowKit Go.Proofs.YtdmmglihkdkeaaaDoorW.PrintWords Go.Proofs.YtdmmglihkdkeaaaDoorW.PrintLast Go.Proofs.YtdmmglihkdkeaaaDoorW.PrintMore
theorem lst_sums {l : List ByteArray} (h : sumsV l 4096 = 0) : Sums l := ⟨by have := (sumsV_zero h).1; omega, (sumsV_zero h).2⟩
def rootV (l : List ByteArray) : ByteArray × Int := if sumsV l 4096 = 0 then (rootF (l.length + 1) l, 0) else (noT, sumsV l 4096)
def includeV (l : List ByteArray) (i n : Int) : List ByteArray × Int :=
  if sumsV l 4096 = 0 then (if n < 1 then ([], 9) else if n > (l.length : Int) then ([], 9) else if i < 0 then ([], 9) else if i ≥ n then ([], 9) else (incF (n.toNat + 1) (l.take n.toNat) i.toNat, 0)) else ([], sumsV l 4096)
def consistV (l : List ByteArray) (m n : Int) : List ByteArray × Int :=
  if sumsV l 4096 = 0 then (if n < 1 then ([], 9) else if n > (l.length : Int) then ([], 9) else if m < 1 then ([], 9) else if m > n then ([], 9) else (conF (n.toNat + 1) (l.take n.toNat) m.toNat true, 0)) else ([], sumsV l 4096)
section
variable {l : List ByteArray} (h : Lst l)
include h
theorem attest_Root_gets : Gets (fun k => attest_Root.f k l) (rootV l) := by
  unfold attest_Root.f rootV
  refine Gets.bind (attest_checkSums_gets h 4096) ?_
  by_cases c : sumsV l 4096 = 0
  · simp only [if_pos c]
    exact Gets.bind (root_gets (l.length + 1) l (by omega) (lst_sums c)).2.1 (Gets.pure _)
  · simp only [if_neg c]; exact Gets.pure _
theorem Include_gets (i n : Int) : Gets (fun k => provenderref8_Include.f k l i n) (includeV l i n) ∧ Gets (fun k => attest_Include.f k l i n) (includeV l i n) := by
  unfold provenderref8_Include.f attest_Include.f includeV
  refine ⟨Gets.bind (ref_leavesFault h) ?_, Gets.bind (attest_checkSums_gets h 4096) ?_⟩
  all_goals
    by_cases c : sumsV l 4096 = 0
    rotate_left
    · simp only [if_neg c]; exact Gets.pure _
    simp only [if_pos c]
    by_cases c1 : n < 1
    · simp only [if_pos c1]; exact Gets.pure _
    simp only [if_neg c1]
    by_cases c2 : n > (l.length : Int)
    · simp only [if_pos c2]; exact Gets.pure _
    simp only [if_neg c2]
    by_cases c3 : i < 0
    · simp only [if_pos c3]; exact Gets.pure _
    simp only [if_neg c3]
    by_cases c4 : i ≥ n
    · simp only [if_pos c4]; exact Gets.pure _
    simp only [if_neg c4, if_pos (show 0 ≤ n by omega), if_pos (show n ≤ (l.length : Int) by omega)]
    have hl := (sumsV_zero c).1
    have hg := inc_gets (n.toNat + 1) (by omega) (l.take n.toNat) i.toNat (by rw [List.length_take]; omega) (by rw [List.length_take]; omega) ((lst_sums c).take _)
    rw [show ((i.toNat : Nat) : Int) = i by omega] at hg
    first
      | exact Gets.bind hg.1 (Gets.pure _)
      | exact Gets.bind hg.2 (Gets.pure _)
theorem Consist_gets (m n : Int) : Gets (fun k => provenderref8_Consist.f k l m n) (consistV l m n) ∧ Gets (fun k => attest_Consist.f k l m n) (consistV l m n) := by
  unfold provenderref8_Consist.f attest_Consist.f consistV
  refine ⟨Gets.bind (ref_leavesFault h) ?_, Gets.bind (attest_checkSums_gets h 4096) ?_⟩
  all_goals
    by_cases c : sumsV l 4096 = 0
    rotate_left
    · simp only [if_neg c]; exact Gets.pure _
    simp only [if_pos c]
    by_cases c1 : n < 1
    · simp only [if_pos c1]; exact Gets.pure _
    simp only [if_neg c1]
    by_cases c2 : n > (l.length : Int)
    · simp only [if_pos c2]; exact Gets.pure _
    simp only [if_neg c2]
    by_cases c3 : m < 1
    · simp only [if_pos c3]; exact Gets.pure _
    simp only [if_neg c3]
    by_cases c4 : m > n
    · simp only [if_pos c4]; exact Gets.pure _
    simp only [if_neg c4, if_pos (show 0 ≤ n by omega), if_pos (show n ≤ (l.length : Int) by omega)]
    have hl := (sumsV_zero c).1
    have hg := con_gets (n.toNat + 1) (by omega) (l.take n.toNat) m.toNat true (by rw [List.length_take]; omega) (by omega) (by rw [List.length_take]; omega) ((lst_sums c).take _)
    rw [show ((m.toNat : Nat) : Int) = m by omega] at hg
    first
      | exact Gets.bind hg.1 (Gets.pure _)
      | exact Gets.bind hg.2 (Gets.pure _)
end
theorem lst_of' {l : List ByteArray} {e : TypeId} (he : Tryd.prog.bytesOf e = 16) (h : l.length * Tryd.prog.bytesOf e ≤ 140737488351232 ∧ l.length ≤ maxLen ∧ ∀ a ∈ l, a.size ≤ 140737488351232) : Lst l := by
  refine ⟨?_, h.2.2⟩
  have h1 := h.1
  rw [he] at h1
  omega
end Go.Proofs.YtdmmglihkdkeaaaDoor.Pr
