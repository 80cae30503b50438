/- The plain law of roots: what the law computes is true, from some number of rounds on. Conditions: the texts and lists are no longer than the form allows. -/
import Derived.Test.YtdmmglihkdkeaaaDoorTPh
import Derived.Test.YtdmmglihkdkeaaaDoorTPrx29
namespace Go.Proofs.YtdmmglihkdkeaaaDoor.Pr
open Go.RowKit Go.Proofs.YtdmmglihkdkeaaaDoorW.PrintWords Go.Proofs.YtdmmglihkdkeaaaDoorW.PrintLast Go.Proofs.YtdmmglihkdkeaaaDoorW.PrintMore
theorem lst_sums {l : List ByteArray} (h : sumsV l 4096 = 0) : Sums l := ⟨by have := (sumsV_zero h).1; omega, (sumsV_zero h).2⟩
def rootV (l : List ByteArray) : ByteArray × Int := if sumsV l 4096 = 0 then (rootF (l.length + 1) l, 0) else (noT, sumsV l 4096)
def includeV (l : List ByteArray) (i n : Int) : List ByteArray × Int :=
  if sumsV l 4096 = 0 then (if n < 1 then ([], 9) else if n > (l.length : Int) then ([], 9) else if i < 0 then ([], 9) else if i ≥ n then ([], 9) else (incF (n.toNat + 1) (l.take n.toNat) i.toNat, 0)) else ([], sumsV l 4096)
def consistV (l : List ByteArray) (m n : Int) : List ByteArray × Int :=
  if sumsV l 4096 = 0 then (if n < 1 then ([], 9) else if n > (l.length : Int) then ([], 9) else if m < 1 then ([], 9) else if m > n then ([], 9) else (conF (n.toNat + 1) (l.take n.toNat) m.toNat true, 0)) else ([], sumsV l 4096)
section
variable {l : List ByteArray} (h : Lst l)
include h
theorem ref_Root : Gets (fun k => provenderref8_Root.f k l) (rootV l) := by
  unfold provenderref8_Root.f rootV
  refine Gets.bind (ref_leavesFault h) ?_
  by_cases c : sumsV l 4096 = 0
  · simp only [if_pos c]
    exact Gets.bind (root_gets (l.length + 1) l (by omega) (lst_sums c)).1 (Gets.pure _)
  · simp only [if_neg c]; exact Gets.pure _
theorem attest_Root_gets : Gets (fun k => attest_Root.f k l) (rootV l) := by
  unfold attest_Root.f rootV
  refine Gets.bind (attest_checkSums_gets h 4096) ?_
  by_cases c : sumsV l 4096 = 0
  · simp only [if_pos c]
    exact Gets.bind (root_gets (l.length + 1) l (by omega) (lst_sums c)).2.1 (Gets.pure _)
  · simp only [if_neg c]; exact Gets.pure _
theorem Include_gets (i n : Int) : Gets (fun k => provenderref8_Include.f k l i n) (includeV l i n) ∧ Gets (fun k => attest_Include.f k l i n) (includeV l i n) := by
  unfold provenderref8_Include.f attest_Include.f includeV
  refine ⟨Gets.bind (ref_leavesFault h) ?_, Gets.bind (attest_checkSums_gets h 4096) ?_⟩
  all_goals
    by_cases c : sumsV l 4096 = 0
    rotate_left
    · simp only [if_neg c]; exact Gets.pure _
    simp only [if_pos c]
    by_cases c1 : n < 1
    · simp only [if_pos c1]; exact Gets.pure _
    simp only [if_neg c1]
    by_cases c2 : n > (l.length : Int)
    · simp only [if_pos c2]; exact Gets.pure _
    simp only [if_neg c2]
    by_cases c3 : i < 0
    · simp only [if_pos c3]; exact Gets.pure _
    simp only [if_neg c3]
    by_cases c4 : i ≥ n
    · simp only [if_pos c4]; exact Gets.pure _
    simp only [if_neg c4, if_pos (show 0 ≤ n by omega), if_pos (show n ≤ (l.length : Int) by omega)]
    have hl := (sumsV_zero c).1
    have hg := inc_gets (n.toNat + 1) (by omega) (l.take n.toNat) i.toNat (by rw [List.length_take]; omega) (by rw [List.length_take]; omega) ((lst_sums c).take _)
    rw [show ((i.toNat : Nat) : Int) = i by omega] at hg
    first
      | exact Gets.bind hg.1 (Gets.pure _)
      | exact Gets.bind hg.2 (Gets.pure _)
theorem Consist_gets (m n : Int) : Gets (fun k => provenderref8_Consist.f k l m n) (consistV l m n) ∧ Gets (fun k => attest_Consist.f k l m n) (consistV l m n) := by
  unfold provenderref8_Consist.f attest_Consist.f consistV
  refine ⟨Gets.bind (ref_leavesFault h) ?_, Gets.bind (attest_checkSums_gets h 4096) ?_⟩
  all_goals
    by_cases c : sumsV l 4096 = 0
    rotate_left
    · simp only [if_neg c]; exact Gets.pure _
    simp only [if_pos c]
    by_cases c1 : n < 1
    · simp only [if_pos c1]; exact Gets.pure _
    simp only [if_neg c1]
    by_cases c2 : n > (l.length : Int)
    · simp only [if_pos c2]; exact Gets.pure _
    simp only [if_neg c2]
    by_cases c3 : m < 1
    · simp only [if_pos c3]; exact Gets.pure _
    simp only [if_neg c3]
    by_cases c4 : m > n
    · simp only [if_pos c4]; exact Gets.pure _
    simp only [if_neg c4, if_pos (show 0 ≤ n by omega), if_pos (show n ≤ (l.length : Int) by omega)]
    have hl := (sumsV_zero c).1
    have hg := con_gets (n.toNat + 1) (by omega) (l.take n.toNat) m.toNat true (by rw [List.length_take]; omega) (by omega) (by rw [List.length_take]; omega) ((lst_sums c).take _)
    rw [show ((m.toNat : Nat) : Int) = m by omega] at hg
    first
      | exact Gets.bind hg.1 (Gets.pure _)
      | exact Gets.bind hg.2 (Gets.pure _)
end
def leafV (a : ByteArray) : ByteArray × Int := if (a.size : Int) > 1000000 then (noT, 3) else (sumHex ((⟨#[0]⟩ : ByteArray) ++ a), 0)
theorem ref_Leaf (a : ByteArray) : Gets (fun k => provenderref8_Leaf.f k a) (leafV a) := by
  unfold provenderref8_Leaf.f leafV
  by_cases c : (a.size : Int) > 1000000
  · simp only [if_pos c]; exact Gets.pure _
  · simp only [if_neg c, if_pos (show 1 + a.size ≤ 9223372036854775807 by omega)]
    exact Gets.bind (ref_Sum64 _ (by rw [app_size, show ByteArray.size ⟨#[0]⟩ = 1 from rfl]; omega)) (Gets.pure _)
theorem attest_Leaf_is (a : ByteArray) : attest_Leaf.f a = some (leafV a) := by
  unfold attest_Leaf.f attest_leaf.f leafV
  by_cases c : (a.size : Int) > 1000000
  · rw [if_pos c, if_pos c]; rfl
  · rw [if_neg c, if_neg c, if_pos (by omega), purl_Sum64_is _ (by rw [app_size, show ByteArray.size ⟨#[0]⟩ = 1 from rfl]; omega)]
    rfl
theorem equal_loop (l : List ByteArray) (hl : l.length ≤ 140737488355328) (d : Nat) : ∀ (i : Nat), i + d = l.length → Gets (fun k => slices_Equal_string_string.l0 k l l (l.length : Int) i) true := by
  induction d with
  | zero =>
    intro i hi
    refine Gets.succ ?_
    simp only [slices_Equal_string_string.l0, if_neg (show ¬ (i : Int) < (l.length : Int) by omega)]
    exact Gets.pure _
  | succ d ih =>
    intro i hi
    refine Gets.succ ?_
    simp only [slices_Equal_string_string.l0, if_pos (show (i : Int) < (l.length : Int) by omega), if_pos (show (0 : Int) ≤ i by omega), if_true, wrap_succ i (by omega)]
    exact ih (i + 1) (by omega)
theorem equal_same (l : List ByteArray) (hl : l.length ≤ 140737488355328) : Gets (fun k => slices_Equal_string_string.f k l l) true := by
  unfold slices_Equal_string_string.f
  simp only [if_true]
  exact equal_loop l hl l.length 0 (by omega)
theorem includeV_length {l : List ByteArray} (i n : Int) : (includeV l i n).1.length ≤ 140737488355328 := by
  unfold includeV
  by_cases c : sumsV l 4096 = 0
  · rw [if_pos c]
    have := (sumsV_zero c).1
    repeat' split
    all_goals first | (show 0 ≤ 140737488355328; omega) | (show (incF _ _ _).length ≤ 140737488355328; refine Nat.le_trans (incF_length _ _ _) ?_; omega)
  · rw [if_neg c]; show 0 ≤ 140737488355328; omega
theorem consistV_length {l : List ByteArray} (m n : Int) : (consistV l m n).1.length ≤ 140737488355328 := by
  unfold consistV
  by_cases c : sumsV l 4096 = 0
  · rw [if_pos c]
    have := (sumsV_zero c).1
    repeat' split
    all_goals first | (show 0 ≤ 140737488355328; omega) | (show (conF _ _ _ _).length ≤ 140737488355328; refine Nat.le_trans (conF_length _ _ _ _) ?_; omega)
  · rw [if_neg c]; show 0 ≤ 140737488355328; omega
theorem lst_of' {l : List ByteArray} {e : TypeId} (he : Tryd.prog.bytesOf e = 16) (h : l.length * Tryd.prog.bytesOf e ≤ 140737488351232 ∧ l.length ≤ maxLen ∧ ∀ a ∈ l, a.size ≤ 140737488351232) : Lst l := by
  refine ⟨?_, h.2.2⟩
  have h1 := h.1
  rw [he] at h1
  omega
theorem roots_true (a0 : ByteArray) (l : List ByteArray) (a2 a3 a4 : Int) (_h0 : a0.size ≤ 140737488351232) (h1 : l.length * Tryd.prog.bytesOf 9 ≤ 140737488351232 ∧ l.length ≤ maxLen ∧ ∀ a ∈ l, a.size ≤ 140737488351232) (_h2 : -9223372036854775808 ≤ a2 ∧ a2 ≤ 9223372036854775807) (_h3 : -9223372036854775808 ≤ a3 ∧ a3 ≤ 9223372036854775807) (_h4 : -9223372036854775808 ≤ a4 ∧ a4 ≤ 9223372036854775807) : Gets (fun k => provenderlaw8_AttestRootsMatchSpec.f k a0 l a2 a3 a4) true := by
  have hl : Lst l := lst_of' (by kernel_rfl) h1
  unfold provenderlaw8_AttestRootsMatchSpec.f
  refine Gets.bind (ref_Leaf a0) ?_
  rw [attest_Leaf_is]
  simp only [Option.bind_some]
  refine Gets.bind (ref_Root hl) (Gets.bind (attest_Root_gets hl) (Gets.bind (Include_gets hl a2 a4).1 (Gets.bind (Include_gets hl a2 a4).2 (Gets.bind (Consist_gets hl a3 a4).1 (Gets.bind (Consist_gets hl a3 a4).2 ?_)))))
  simp only [if_true]
  refine Gets.bind (equal_same _ (includeV_length a2 a4)) ?_
  simp only [if_true]
  refine Gets.bind (equal_same _ (consistV_length a3 a4)) ?_
  simp only [if_true]
  exact Gets.bind told_gets (Gets.pure _)
end Go.Proofs.YtdmmglihkdkeaaaDoor.Pr
