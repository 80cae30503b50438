/- The plain law of kinds: what the law computes is true, from some number of rounds on. Conditions: none. -/
import Derived.Test.YtmnfjbmhlabdaaaDoorDGt
import Derived.Test.YtmnfjbmhlabdaaaDoorDEk
import Derived.Test.YtmnfjbmhlabdaaaDoorDEq
import Derived.Test.YtmnfjbmhlabdaaaDoorDPk1
import Derived.Test.YtmnfjbmhlabdaaaDoorDPk8
import Derived.Test.YtmnfjbmhlabdaaaDoorDPrx0
import Derived.Test.YtmnfjbmhlabdaaaDoorDPrx11
import Derived.Test.YtmnfjbmhlabdaaaDoorDPrx3
import Derived.Test.YtmnfjbmhlabdaaaDoorDEu
import Derived.Test.YtmnfjbmhlabdaaaDoorDEz
import Derived.Test.YtmnfjbmhlabdaaaDoorDEd
import Derived.Test.YtmnfjbmhlabdaaaDoorDEe
import Derived.Test.YtmnfjbmhlabdaaaDoorDEn
import Derived.Test.YtmnfjbmhlabdaaaDoorDEp
import Derived.Below
import Derived.Test.YtmnfjbmhlabdaaaDoorDEc
import Derived.Test.YtmnfjbmhlabdaaaDoorDEx
import Derived.Test.YtmnfjbmhlabdaaaDoorDE5
import Derived.Test.YtmnfjbmhlabdaaaDoorDEo
import Derived.Test.YtmnfjbmhlabdaaaDoorDPrx9
import Derived.Lib.FJoinFns
import Derived.Test.YtmnfjbmhlabdaaaDoorDPm2
import Derived.Test.YtmnfjbmhlabdaaaDoorDPrx10
import Derived.Lib.SplitLaws
import Derived.Test.YtmnfjbmhlabdaaaDoorDEm
import Derived.Test.YtmnfjbmhlabdaaaDoorDE3
import Derived.Test.YtmnfjbmhlabdaaaDoorDPn8
namespace Go.Proofs.YtmnfjbmhlabdaaaDoor.Pr
open Go.RowKit Go.Proofs.YtmnfjbmhlabdaaaDoorW.PrintWords Go.Proofs.YtmnfjbmhlabdaaaDoorW.PrintLast Go.Proofs.YtmnfjbmhlabdaaaDoorW.PrintMore
set_option maxRecDepth 100000 in
theorem told_at : l2_told.f 60 = some true := by kernel_rfl
theorem told_gets : Gets (fun k => l2_told.f k) true := Gets.mono l2_told.mono 60 told_at
theorem rp_step (k : Nat) (a0 : ByteArray) (i : Nat) (b : List UInt8) (hi : i < 5) (hb : (rdOf ByteArray.empty kindsB (i : Int)).toList = b) : r2_place.l0 (k + 1) a0 kindsB 5 (i : Int) = if b = a0.toList then some (i : Int) else r2_place.l0 k a0 kindsB 5 ((i + 1 : Nat) : Int) := by
 simp only [r2_place.l0]
 rw [if_pos (show (i : Int) < 5 by omega), if_pos (show (0 : Int) ≤ (i : Int) by omega), if_pos (show (i : Int) < ((kindsB.length : Nat) : Int) from (show (i : Int) < 5 by omega)), hb, wrap_succ i (by omega)]
theorem ref_place (a0 : ByteArray) : Gets (fun k => r2_place.f k a0) (placeI a0.toList) := by
 refine ⟨6, fun k hk => ?_⟩
 obtain ⟨k, rfl⟩ : ∃ m, k = m + 6 := ⟨k - 6, by omega⟩
 have h0 := rp_step (k + 5) a0 0 [100, 111, 116, 116, 101, 100] (by omega) (by kernel_rfl)
 have h1 := rp_step (k + 4) a0 1 [114, 101, 118, 105, 115, 101, 100] (by omega) (by kernel_rfl)
 have h2 := rp_step (k + 3) a0 2 [115, 116, 97, 103, 101, 100] (by omega) (by kernel_rfl)
 have h3 := rp_step (k + 2) a0 3 [113, 117, 97, 108, 105, 102, 105, 101, 100] (by omega) (by kernel_rfl)
 have h4 := rp_step (k + 1) a0 4 [112, 108, 97, 105, 110] (by omega) (by kernel_rfl)
 show r2_place.l0 (k + 5 + 1) a0 kindsB 5 ((0 : Nat) : Int) = _
 generalize a0.toList = a at *
 unfold placeI placeN
 by_cases g0 : a = [100, 111, 116, 116, 101, 100]
 ·rw [h0, if_pos g0.symm, if_pos g0]; rfl
 rw [h0, if_neg (fun e => g0 e.symm), if_neg g0, h1]
 by_cases g1 : a = [114, 101, 118, 105, 115, 101, 100]
 ·rw [if_pos g1.symm, if_pos g1]; rfl
 rw [if_neg (fun e => g1 e.symm), if_neg g1, h2]
 by_cases g2 : a = [115, 116, 97, 103, 101, 100]
 ·rw [if_pos g2.symm, if_pos g2]; rfl
 rw [if_neg (fun e => g2 e.symm), if_neg g2, h3]
 by_cases g3 : a = [113, 117, 97, 108, 105, 102, 105, 101, 100]
 ·rw [if_pos g3.symm, if_pos g3]; rfl
 rw [if_neg (fun e => g3 e.symm), if_neg g3, h4]
 by_cases g4 : a = [112, 108, 97, 105, 110]
 ·rw [if_pos g4.symm, if_pos g4]; rfl
 rw [if_neg (fun e => g4 e.symm), if_neg g4]
 rfl
def ruleB (a0 : ByteArray) : ByteArray × Int × Bool × Bool × Int × Int := if placeN a0.toList < 5 then ((ruleAt (placeN a0.toList)).1, (ruleAt (placeN a0.toList)).2.1, (ruleAt (placeN a0.toList)).2.2.1, (ruleAt (placeN a0.toList)).2.2.2.1, (ruleAt (placeN a0.toList)).2.2.2.2, 0) else (⟨#[]⟩, 0, false, false, 0, 7)
theorem purl_Rule_eq (a0 : ByteArray) : purl_Rule.f a0 = some (ruleB a0) := by
 unfold purl_Rule.f ruleB
 split <;> rfl
theorem ref_Rule (a0 : ByteArray) : Gets (fun k => r2_Rule.f k a0) (ruleB a0) := by
 unfold r2_Rule.f
 refine Gets.bind (ref_place a0) (Gets.of ?_)
 unfold ruleB placeI
 have h := placeN_le a0.toList
 generalize placeN a0.toList = p at *
 obtain rfl | rfl | rfl | rfl | rfl | rfl : p = 0 ∨ p = 1 ∨ p = 2 ∨ p = 3 ∨ p = 4 ∨ p = 5 := by omega
 all_goals rfl
end Go.Proofs.YtmnfjbmhlabdaaaDoor.Pr
namespace Go.Proofs.YtmnfjbmhlabdaaaDoor.Pr
open Go.RowKit Go.Proofs.YtmnfjbmhlabdaaaDoorW.PrintWords Go.Proofs.YtmnfjbmhlabdaaaDoorW.PrintLast Go.Proofs.YtmnfjbmhlabdaaaDoorW.PrintMore
set_option linter.unusedSimpArgs false
set_option linter.unusedVariables false
def over (s : ByteArray) : Bool := decide ((s.size : Int) > 200)
def qover (q : S64) : Bool := over q.f0 || over q.f1
theorem rdOf_drop (l : List ByteArray) (i : Nat) (h : i < l.length) : l.drop i = rdOf ByteArray.empty l (i : Int) :: l.drop (i + 1) := by
 rw [List.drop_eq_getElem_cons h]
 unfold rdOf
 rw [Int.toNat_natCast, List.getD_eq_getElem?_getD, List.getElem?_eq_getElem h]
 rfl
theorem rd64_drop (l : List S64) (i : Nat) (h : i < l.length) : l.drop i = rd_T64 l (i : Int) :: l.drop (i + 1) := by
 rw [List.drop_eq_getElem_cons h]
 unfold rd_T64
 rw [Int.toNat_natCast, List.getD_eq_getElem?_getD, List.getElem?_eq_getElem h]
 rfl
theorem rd64_mem (l : List S64) (i : Nat) (h : i < l.length) : rd_T64 l (i : Int) ∈ l := by
 have := rd64_drop l i h
 exact List.mem_of_mem_drop (i := i) (by rw [this]; exact List.mem_cons_self)
theorem ref_long_loop (xs : List ByteArray) (hx : xs.length ≤ 9223372036854775806) (d : Nat) : ∀ i, i + d = xs.length → Gets (fun k => r2_long.l0 k xs (xs.length : Int) (i : Int)) ((xs.drop i).any over) := by
 induction d with
 | zero =>
  intro i hi
  refine Gets.succ ?_
  simp only [r2_long.l0, show ((i : Int) < (xs.length : Int)) = False from eq_false (by omega), if_false]
  rw [List.drop_of_length_le (by omega)]
  exact Gets.pure _
 | succ d ih =>
  intro i hi
  have hih := ih (i + 1) (by omega)
  refine Gets.succ ?_
  simp only [r2_long.l0, show ((i : Int) < (xs.length : Int)) = True from eq_true (by omega), show ((0 : Int) ≤ (i : Int)) = True from eq_true (by omega), if_true]
  rw [rdOf_drop xs i (by omega), List.any_cons, wrap_succ i (by omega)]
  generalize rdOf ByteArray.empty xs (i : Int) = x
  by_cases h : (x.size : Int) > 200
  ·simp only [h, if_true]
   exact Gets.congr (Gets.pure true) (by rw [show over x = true from decide_eq_true h]; rfl)
  ·simp only [h, if_false]
   exact Gets.congr hih (by rw [show over x = false from decide_eq_false h]; rfl)
theorem ref_long (xs : List ByteArray) (hx : xs.length ≤ 9223372036854775806) : Gets (fun k => r2_long.f k xs) (xs.any over) := by
 have h := ref_long_loop xs hx xs.length 0 (by omega)
 rw [List.drop_zero] at h
 exact h
theorem purl_long_l1 (l : List S64) (hl : l.length ≤ 9223372036854775806) (a b c e f : ByteArray) (d : Nat) : ∀ i, i + d = l.length → Gets (fun k => purl_long.l1 k l (l.length : Int) (i : Int) a b c e l f) ((l.drop i).any qover || decide ((l.length : Int) > 10)) := by
 induction d with
 | zero =>
  intro i hi
  refine Gets.succ ?_
  simp only [purl_long.l1, show ((i : Int) < (l.length : Int)) = False from eq_false (by omega), if_false]
  rw [List.drop_of_length_le (by omega)]
  exact Gets.pure _
 | succ d ih =>
  intro i hi
  have hih := ih (i + 1) (by omega)
  refine Gets.succ ?_
  simp only [purl_long.l1, show ((i : Int) < (l.length : Int)) = True from eq_true (by omega), show ((0 : Int) ≤ (i : Int)) = True from eq_true (by omega), if_true]
  rw [rd64_drop l i (by omega), List.any_cons, wrap_succ i (by omega)]
  generalize rd_T64 l (i : Int) = x
  by_cases h : (x.f0.size : Int) > 200
  ·simp only [h, if_true]
   exact Gets.congr (Gets.pure true) (by unfold qover; rw [show over x.f0 = true from decide_eq_true h]; rfl)
  ·by_cases h2 : (x.f1.size : Int) > 200
   ·simp only [h, h2, if_true, if_false]
    exact Gets.congr (Gets.pure true) (by rw [show qover x = true from by unfold qover; rw [show over x.f1 = true from decide_eq_true h2, Bool.or_true]]; rfl)
   ·simp only [h, h2, if_false]
    exact Gets.congr hih (by rw [show qover x = false from by unfold qover; rw [show over x.f0 = false from decide_eq_false h, show over x.f1 = false from decide_eq_false h2]; rfl]; rfl)
theorem purl_long_l0 (xs : List ByteArray) (hx : xs.length ≤ 9223372036854775806) (l : List S64) (hl : l.length ≤ 9223372036854775806) (a b c e f : ByteArray) (d : Nat) : ∀ i, i + d = xs.length → Gets (fun k => purl_long.l0 k xs (xs.length : Int) (i : Int) a b c e l f) ((xs.drop i).any over || (l.any qover || decide ((l.length : Int) > 10))) := by
 induction d with
 | zero =>
  intro i hi
  refine Gets.succ ?_
  simp only [purl_long.l0, show ((i : Int) < (xs.length : Int)) = False from eq_false (by omega), if_false]
  rw [List.drop_of_length_le (by omega)]
  have h := purl_long_l1 l hl a b c e f l.length 0 (by omega)
  rw [List.drop_zero] at h
  exact h
 | succ d ih =>
  intro i hi
  have hih := ih (i + 1) (by omega)
  refine Gets.succ ?_
  simp only [purl_long.l0, show ((i : Int) < (xs.length : Int)) = True from eq_true (by omega), show ((0 : Int) ≤ (i : Int)) = True from eq_true (by omega), if_true]
  rw [rdOf_drop xs i (by omega), List.any_cons, wrap_succ i (by omega)]
  generalize rdOf ByteArray.empty xs (i : Int) = x
  by_cases h : (x.size : Int) > 200
  ·simp only [h, if_true]
   exact Gets.congr (Gets.pure true) (by rw [show over x = true from decide_eq_true h]; rfl)
  ·simp only [h, if_false]
   exact Gets.congr hih (by rw [show over x = false from decide_eq_false h]; rfl)
def overB (a1 a2 a3 : ByteArray) (l : List S64) (a5 : ByteArray) : Bool := [a1, a2, a3, a5].any over || (l.any qover || decide ((l.length : Int) > 10))
theorem purl_long_gets (a0 a1 a2 a3 : ByteArray) (l : List S64) (hl : l.length ≤ 9223372036854775806) (a5 : ByteArray) : Gets (fun k => purl_long.f k a0 a1 a2 a3 l a5) (overB a1 a2 a3 l a5) := by
 have h := purl_long_l0 [a1, a2, a3, a5] (by simp) l hl a0 a1 a2 a3 a5 4 0 rfl
 rw [List.drop_zero] at h
 exact h
theorem ckL0_gets (l : List S64) (d : Nat) : ∀ i, i + d = l.length → Gets (fun k => ckL0 k l d i) ((l.drop i).any qover) := by
 induction d with
 | zero =>
  intro i hi
  rw [List.drop_of_length_le (by omega)]
  exact Gets.pure _
 | succ d ih =>
  intro i hi
  have hih := ih (i + 1) (by omega)
  simp only [ckL0]
  rw [rd64_drop l i (by omega), List.any_cons]
  generalize rd_T64 l (i : Int) = x
  refine Gets.bind (ref_long [x.f0, x.f1] (by simp)) ?_
  have e : [x.f0, x.f1].any over = qover x := by unfold qover; simp
  rw [e]
  by_cases h : qover x = true
  ·simp only [h, if_true]
   exact Gets.pure _
  ·rw [Bool.not_eq_true] at h
   simp only [h, Bool.false_eq_true, if_false, Bool.false_or]
   exact hih
def badB (dots : Bool) (x : ByteArray) : Bool := (x.toList == []) || (dots && ((x.toList == [46]) || (x.toList == [46, 46])))
theorem fault_loop (a l : List ByteArray) (hl : l.length ≤ 9223372036854775806) (dots : Bool) (d : Nat) : ∀ i, i + d = l.length → Gets (fun k => purl_pathFault.l0 k a dots l (l.length : Int) (i : Int)) ((l.drop i).any (badB dots) || decide ((a.length : Int) > 10)) := by
 induction d with
 | zero =>
  intro i hi
  refine Gets.succ ?_
  simp only [purl_pathFault.l0, show ((i : Int) < (l.length : Int)) = False from eq_false (by omega), if_false]
  rw [List.drop_of_length_le (by omega)]
  exact Gets.pure _
 | succ d ih =>
  intro i hi
  have hih := ih (i + 1) (by omega)
  refine Gets.succ ?_
  simp only [purl_pathFault.l0, show ((i : Int) < (l.length : Int)) = True from eq_true (by omega), show ((0 : Int) ≤ (i : Int)) = True from eq_true (by omega), if_true]
  rw [rdOf_drop l i (by omega), List.any_cons, wrap_succ i (by omega)]
  generalize rdOf ByteArray.empty l (i : Int) = x
  have yes : badB dots x = true → Gets (fun _ => some true) (badB dots x || (l.drop (i + 1)).any (badB dots) || decide ((a.length : Int) > 10)) := fun h => Gets.congr (Gets.pure true) (by rw [h]; rfl)
  have no : badB dots x = false → Gets (fun k => purl_pathFault.l0 k a dots l (l.length : Int) ((i + 1 : Nat) : Int)) (badB dots x || (l.drop (i + 1)).any (badB dots) || decide ((a.length : Int) > 10)) := fun h => Gets.congr hih (by rw [h]; rfl)
  by_cases h0 : x.toList = []
  ·simp only [h0, if_true]
   exact yes (by unfold badB; rw [beq_iff_eq.mpr h0]; rfl)
  ·have b0 : (x.toList == []) = false := beq_eq_false_iff_ne.mpr h0
   cases dots with
   | false =>
    simp only [h0, if_false, Bool.false_eq_true]
    exact no (by unfold badB; rw [b0]; rfl)
   | true =>
    by_cases h1 : x.toList = [46]
    ·simp only [h0, h1, if_true, if_false]
     have := yes (by unfold badB; rw [b0, beq_iff_eq.mpr h1]; rfl)
     simpa [h1] using this
    ·by_cases h2 : x.toList = [46, 46]
     ·simp only [h0, h1, h2, if_true, if_false]
      have := yes (by unfold badB; rw [b0, beq_eq_false_iff_ne.mpr h1, beq_iff_eq.mpr h2]; rfl)
      simpa [h2] using this
     ·simp only [h0, h1, h2, if_true, if_false]
      exact no (by unfold badB; rw [b0, beq_eq_false_iff_ne.mpr h1, beq_eq_false_iff_ne.mpr h2]; rfl)
def faultB (l : List ByteArray) (dots : Bool) : Bool := l.any (badB dots) || decide ((l.length : Int) > 10)
theorem purl_fault (l : List ByteArray) (hl : l.length ≤ 9223372036854775806) (dots : Bool) : Gets (fun k => purl_pathFault.f k l dots) (faultB l dots) := by
 have h := fault_loop l l hl dots l.length 0 (by omega)
 rw [List.drop_zero] at h
 exact h
theorem bad_same (k : Nat) : ∀ a d b n i, r2_badSegments.l0 k d a b n i = purl_pathFault.l0 k a d b n i := by
 induction k with
 | zero => intro a d b n i; simp only [r2_badSegments.l0, purl_pathFault.l0]
 | succ k ih => intro a d b n i; simp only [r2_badSegments.l0, purl_pathFault.l0, ih]
def segL (s : ByteArray) : List ByteArray := if s.toList = [] then [] else Lib.splitB ⟨#[47]⟩ 0 (Lib.countB s ⟨#[47]⟩) s
theorem purl_segs (s : ByteArray) (h : s.size < 4294967281) : purl_segments.f s = some (segL s) := by
 unfold purl_segments.f segL
 split
 ·rfl
 ·unfold lib_Split.f
  rw [if_pos ⟨h, rfl⟩]
  rfl
theorem ref_segs (s : ByteArray) (h : s.size < 4294967281) : r2_segments.f s = some (segL s) := by
 unfold r2_segments.f segL
 split
 ·rfl
 ·unfold lib_Split.f
  rw [if_pos ⟨h, rfl⟩]
  rfl
theorem segL_len (s : ByteArray) : (segL s).length ≤ s.size + 1 := by
 unfold segL
 split
 ·simp
 ·rw [split_len]
  have := Lib.countB_le ⟨#[47]⟩ (Nat.le_refl 1) s.size s (Nat.le_refl _)
  omega
theorem ref_bad (s : ByteArray) (h : s.size < 4294967281) (dots : Bool) : Gets (fun k => r2_badSegments.f k s dots) (faultB (segL s) dots) := by
 unfold r2_badSegments.f
 rw [ref_segs s h]
 simp only [Option.bind_some, bad_same]
 exact purl_fault (segL s) (by have := segL_len s; omega) dots
end Go.Proofs.YtmnfjbmhlabdaaaDoor.Pr
namespace Go.Proofs.YtmnfjbmhlabdaaaDoor.Pr
open Go.RowKit Go.Proofs.YtmnfjbmhlabdaaaDoorW.PrintWords Go.Proofs.YtmnfjbmhlabdaaaDoorW.PrintLast Go.Proofs.YtmnfjbmhlabdaaaDoorW.PrintMore
set_option linter.unusedSimpArgs false
set_option linter.unusedVariables false
def nbP (c : Int) (first : Bool) : Prop := (97 ≤ c ∧ c ≤ 122) ∨ (first = false ∧ ((48 ≤ c ∧ c ≤ 57) ∨ c = 46 ∨ c = 45 ∨ c = 95))
instance (c : Int) (first : Bool) : Decidable (nbP c first) := by unfold nbP; exact inferInstance
theorem nameByte_is (c : Int) (first : Bool) : purl_nameByte.f c first = some (decide (nbP c first)) := by
 unfold purl_nameByte.f
 by_cases h : nbP c first
 ·rw [decide_eq_true h]
  unfold nbP at h
  cases first <;> simp only [Bool.false_eq_true, if_false, if_true, false_and, true_and, or_false, reduceCtorEq, beq_iff_eq] at h ⊢
  all_goals (repeat' split)
  all_goals first | rfl | (exfalso; omega) | (congr 1; rw [beq_iff_eq]; omega)
 ·rw [decide_eq_false h]
  unfold nbP at h
  cases first <;> simp only [Bool.false_eq_true, if_false, if_true, false_and, true_and, or_false, reduceCtorEq, beq_iff_eq] at h ⊢
  all_goals (repeat' split)
  all_goals first | rfl | (exfalso; omega) | (congr 1; rw [beq_eq_false_iff_ne]; omega)
def qnFrom (s : ByteArray) (i : Nat) : Bool := decide (∀ j, j < s.size → i ≤ j → nbP (bt s (j : Int)) (decide (j = 0)))
def qnB (s : ByteArray) : Bool := qnFrom s 0 && (s.toList != [])
theorem qnFrom_end (s : ByteArray) : qnFrom s s.size = true := by
 unfold qnFrom; exact decide_eq_true (fun j h1 h2 => by omega)
theorem qnFrom_yes {s : ByteArray} {i : Nat} (h : nbP (bt s (i : Int)) (decide (i = 0))) : qnFrom s i = qnFrom s (i + 1) := by
 unfold qnFrom
 exact decide_eq_decide.2 ⟨fun g j h1 h2 => g j h1 (by omega), fun g j h1 h2 => by
  rcases Nat.lt_or_ge i j with h3 | h3
  ·exact g j h1 h3
  ·obtain rfl : i = j := by omega
   exact h⟩
theorem qnFrom_no {s : ByteArray} {i : Nat} (hi : i < s.size) (h : ¬ nbP (bt s (i : Int)) (decide (i = 0))) : qnFrom s i = false := by
 unfold qnFrom
 exact decide_eq_false (fun g => h (g i hi (Nat.le_refl _)))
theorem zero_beq (i : Nat) : (((i : Int)) == 0) = decide (i = 0) := by
 by_cases h : i = 0
 ·subst h; rfl
 ·rw [decide_eq_false h, beq_eq_false_iff_ne]; omega
theorem purl_qn_loop (s : ByteArray) (hs : s.size ≤ 140737488351232) (d : Nat) : ∀ i, i + d = s.size → Gets (fun k => purl_qualifierName.l0 k s (s.size : Int) (i : Int)) (qnFrom s i && (s.toList != [])) := by
 induction d with
 | zero =>
  intro i hi
  obtain rfl : i = s.size := by omega
  refine Gets.succ ?_
  simp only [purl_qualifierName.l0, show ((s.size : Int) < (s.size : Int)) = False from eq_false (by omega), if_false]
  rw [qnFrom_end]
  exact Gets.pure _
 | succ d ih =>
  intro i hi
  have hih := ih (i + 1) (by omega)
  refine Gets.succ ?_
  simp only [purl_qualifierName.l0, show ((i : Int) < (s.size : Int)) = True from eq_true (by omega), show ((0 : Int) ≤ (i : Int)) = True from eq_true (by omega), if_true, nameByte_is, Option.bind_some, decide_eq_true_eq, zero_beq]
  rw [wrap_succ i (by omega)]
  by_cases h : nbP (bt s (i : Int)) (decide (i = 0))
  ·simp only [h, if_true]
   rw [qnFrom_yes h]
   exact hih
  ·simp only [h, if_false]
   rw [qnFrom_no (by omega) h]
   exact Gets.pure _
theorem purl_qn (s : ByteArray) (hs : s.size ≤ 140737488351232) : Gets (fun k => purl_qualifierName.f k s) (qnB s) := purl_qn_loop s hs s.size 0 (by omega)
theorem ref_qn_loop (s : ByteArray) (hs : s.size ≤ 140737488351232) (d : Nat) : ∀ i, i + d = s.size → Gets (fun k => r2_isQualifier.l0 k s (i : Int)) (qnFrom s i && (s.toList != [])) := by
 induction d with
 | zero =>
  intro i hi
  obtain rfl : i = s.size := by omega
  refine Gets.succ ?_
  simp only [r2_isQualifier.l0, show ((s.size : Int) < (s.size : Int)) = False from eq_false (by omega), if_false]
  rw [qnFrom_end]
  exact Gets.pure _
 | succ d ih =>
  intro i hi
  obtain ⟨K, hK⟩ := ih (i + 1) (by omega)
  refine ⟨K + 1, fun k hk => ?_⟩
  obtain ⟨k, rfl⟩ : ∃ m, k = m + 1 := ⟨k - 1, by omega⟩
  have hih : r2_isQualifier.l0 k s ((i + 1 : Nat) : Int) = some (qnFrom s (i + 1) && (s.toList != [])) := hK k (by omega)
  simp only [r2_isQualifier.l0]
  rw [if_pos (by omega), if_pos (by omega), wrap_succ i (by omega)]
  by_cases h : nbP (bt s (i : Int)) (decide (i = 0))
  ·rw [qnFrom_yes h, ← hih]
   generalize r2_isQualifier.l0 k s ((i + 1 : Nat) : Int) = A
   unfold nbP at h
   rw [decide_eq_false_iff_not] at h
   generalize bt s (i : Int) = c at *
   repeat' split
   all_goals first | rfl | (exfalso; omega)
  ·rw [qnFrom_no (by omega) h]
   generalize r2_isQualifier.l0 k s ((i + 1 : Nat) : Int) = A
   unfold nbP at h
   rw [decide_eq_false_iff_not] at h
   generalize bt s (i : Int) = c at *
   repeat' split
   all_goals first | rfl | (exfalso; omega)
theorem ref_qn (s : ByteArray) (hs : s.size ≤ 140737488351232) : Gets (fun k => r2_isQualifier.f k s) (qnB s) := ref_qn_loop s hs s.size 0 (by omega)
def qlE (l : List S64) : Nat → Nat → Int
 | 0, _ => 0
 | d + 1, i => if qnB (rd_T64 l i).f0 = true then (if (rd_T64 l i).f1.toList = [] then 2 else if 0 < i then (if Op.bytesLess (rd_T64 l ((i - 1 : Nat) : Int)).f0.toList (rd_T64 l i).f0.toList = true then qlE l d (i + 1) else 10) else qlE l d (i + 1)) else 8
theorem ckL1_gets (l : List S64) (hs : ∀ x ∈ l, x.f0.size ≤ 140737488351232) (d : Nat) : ∀ i, i + d = l.length → Gets (fun k => ckL1 k l d i) (qlE l d i) := by
 induction d with
 | zero => intro i hi; exact Gets.pure _
 | succ d ih =>
  intro i hi
  have hih := ih (i + 1) (by omega)
  have hm := hs _ (rd64_mem l i (by omega))
  simp only [ckL1, qlE]
  refine Gets.bind (ref_qn _ hm) ?_
  by_cases h1 : qnB (rd_T64 l i).f0 = true
  ·simp only [h1, if_true]
   by_cases h2 : (rd_T64 l i).f1.toList = []
   ·simp only [h2, if_true]; exact Gets.pure _
   ·simp only [h2, if_false]
    by_cases h3 : 0 < i
    ·simp only [h3, if_true]
     by_cases h4 : Op.bytesLess (rd_T64 l ((i - 1 : Nat) : Int)).f0.toList (rd_T64 l i).f0.toList = true
     ·simp only [h4, if_true]; exact hih
     ·simp only [h4, if_false]; exact Gets.pure _
    ·simp only [h3, if_false]; exact hih
  ·simp only [h1, if_false]; exact Gets.pure _
theorem purl_ql_loop (l : List S64) (hl : l.length ≤ 9223372036854775806) (hs : ∀ x ∈ l, x.f0.size ≤ 140737488351232) (d : Nat) : ∀ i, i + d = l.length → Gets (fun k => purl_checkQualifiers.l0 k l l (l.length : Int) (i : Int)) (qlE l d i) := by
 induction d with
 | zero =>
  intro i hi
  refine Gets.succ ?_
  simp only [purl_checkQualifiers.l0, show ((i : Int) < (l.length : Int)) = False from eq_false (by omega), if_false]
  exact Gets.pure _
 | succ d ih =>
  intro i hi
  have hih := ih (i + 1) (by omega)
  have hm := hs _ (rd64_mem l i (by omega))
  refine Gets.succ ?_
  simp only [purl_checkQualifiers.l0, qlE, show ((i : Int) < (l.length : Int)) = True from eq_true (by omega), show ((0 : Int) ≤ (i : Int)) = True from eq_true (by omega), if_true]
  rw [wrap_succ i (by omega)]
  refine Gets.bind (purl_qn _ hm) ?_
  by_cases h1 : qnB (rd_T64 l i).f0 = true
  ·simp only [h1, if_true]
   by_cases h2 : (rd_T64 l i).f1.toList = []
   ·simp only [h2, if_true]; exact Gets.pure _
   ·simp only [h2, if_false]
    by_cases h3 : 0 < i
    ·simp only [h3, if_true, show ((i : Int) > 0) = True from eq_true (by omega), show wrap64 ((i : Int) - 1) = ((i - 1 : Nat) : Int) from by unfold wrap64; omega, show ((0 : Int) ≤ ((i - 1 : Nat) : Int)) = True from eq_true (by omega), show (((i - 1 : Nat) : Int) < (l.length : Int)) = True from eq_true (by omega)]
     by_cases h4 : Op.bytesLess (rd_T64 l ((i - 1 : Nat) : Int)).f0.toList (rd_T64 l i).f0.toList = true
     ·simp only [h4, if_true]; exact hih
     ·simp only [h4, if_false]; exact Gets.pure _
    ·simp only [h3, if_false, show ((i : Int) > 0) = False from eq_false (by omega)]; exact hih
  ·simp only [h1, if_false]; exact Gets.pure _
theorem purl_ql (l : List S64) (hl : l.length ≤ 9223372036854775806) (hs : ∀ x ∈ l, x.f0.size ≤ 140737488351232) : Gets (fun k => purl_checkQualifiers.f k l) (qlE l l.length 0) := purl_ql_loop l hl hs l.length 0 (by omega)
def dirtyP (c : Int) : Prop := c < 32 ∨ c = 127
instance (c : Int) : Decidable (dirtyP c) := by unfold dirtyP; exact inferInstance
def dirtyFrom (s : ByteArray) (i : Nat) : Bool := decide (∃ j, j < s.size ∧ i ≤ j ∧ dirtyP (bt s (j : Int)))
def dirtyB (s : ByteArray) : Bool := dirtyFrom s 0
theorem dirty_end (s : ByteArray) : dirtyFrom s s.size = false := by
 unfold dirtyFrom; exact decide_eq_false (fun ⟨j, h1, h2, _⟩ => by omega)
theorem dirty_yes {s : ByteArray} {i : Nat} (hi : i < s.size) (h : dirtyP (bt s (i : Int))) : dirtyFrom s i = true := by
 unfold dirtyFrom; exact decide_eq_true ⟨i, hi, Nat.le_refl _, h⟩
theorem dirty_no {s : ByteArray} {i : Nat} (h : ¬ dirtyP (bt s (i : Int))) : dirtyFrom s i = dirtyFrom s (i + 1) := by
 unfold dirtyFrom
 refine decide_eq_decide.2 ⟨fun ⟨j, h1, h2, h3⟩ => ⟨j, h1, ?_, h3⟩, fun ⟨j, h1, h2, h3⟩ => ⟨j, h1, by omega, h3⟩⟩
 rcases Nat.lt_or_ge i j with h4 | h4
 ·exact h4
 ·obtain rfl : i = j := by omega
  exact absurd h3 h
theorem control_loop (s : ByteArray) (hs : s.size ≤ 140737488351232) (d : Nat) : ∀ i, i + d = s.size → Gets (fun k => purl_control.l0 k s (s.size : Int) (i : Int)) (dirtyFrom s i) := by
 induction d with
 | zero =>
  intro i hi
  obtain rfl : i = s.size := by omega
  refine Gets.succ ?_
  simp only [purl_control.l0, show ((s.size : Int) < (s.size : Int)) = False from eq_false (by omega), if_false]
  rw [dirty_end]
  exact Gets.pure _
 | succ d ih =>
  intro i hi
  have hih := ih (i + 1) (by omega)
  refine Gets.succ ?_
  simp only [purl_control.l0, show ((i : Int) < (s.size : Int)) = True from eq_true (by omega), show ((0 : Int) ≤ (i : Int)) = True from eq_true (by omega), if_true]
  rw [wrap_succ i (by omega)]
  by_cases h1 : bt s (i : Int) < 32
  ·simp only [h1, if_true]
   rw [dirty_yes (by omega) (Or.inl h1)]
   exact Gets.pure _
  ·by_cases h2 : bt s (i : Int) = 127
   ·simp only [h1, if_false]
    rw [dirty_yes (by omega) (Or.inr h2)]
    simp only [h2, if_true]
    exact Gets.pure _
   ·simp only [h1, h2, if_false]
    rw [dirty_no (fun h => h.elim h1 h2)]
    exact hih
theorem purl_control_gets (s : ByteArray) (hs : s.size ≤ 140737488351232) : Gets (fun k => purl_control.f k s) (dirtyB s) := control_loop s hs s.size 0 (by omega)
theorem clean_loop (s : ByteArray) (hs : s.size ≤ 140737488351232) (d : Nat) : ∀ i, i + d = s.size → Gets (fun k => r2_clean.l0 k s (i : Int)) (!dirtyFrom s i) := by
 induction d with
 | zero =>
  intro i hi
  obtain rfl : i = s.size := by omega
  refine Gets.succ ?_
  simp only [r2_clean.l0, show ((s.size : Int) < (s.size : Int)) = False from eq_false (by omega), if_false]
  rw [dirty_end]
  exact Gets.pure _
 | succ d ih =>
  intro i hi
  have hih := ih (i + 1) (by omega)
  refine Gets.succ ?_
  simp only [r2_clean.l0, show ((i : Int) < (s.size : Int)) = True from eq_true (by omega), show ((0 : Int) ≤ (i : Int)) = True from eq_true (by omega), if_true]
  rw [wrap_succ i (by omega)]
  by_cases h1 : bt s (i : Int) < 32
  ·simp only [h1, if_true]
   rw [dirty_yes (by omega) (Or.inl h1)]
   exact Gets.pure _
  ·by_cases h2 : bt s (i : Int) = 127
   ·simp only [h1, if_false]
    rw [dirty_yes (by omega) (Or.inr h2)]
    simp only [h2, if_true]
    exact Gets.pure _
   ·simp only [h1, h2, if_false]
    rw [dirty_no (fun h => h.elim h1 h2)]
    exact hih
theorem ref_clean (s : ByteArray) (hs : s.size ≤ 140737488351232) : Gets (fun k => r2_clean.f k s) (!dirtyB s) := clean_loop s hs s.size 0 (by omega)
end Go.Proofs.YtmnfjbmhlabdaaaDoor.Pr
namespace Go.Proofs.YtmnfjbmhlabdaaaDoor.Pr
open Go.RowKit Go.Proofs.YtmnfjbmhlabdaaaDoorW.PrintWords Go.Proofs.YtmnfjbmhlabdaaaDoorW.PrintLast Go.Proofs.YtmnfjbmhlabdaaaDoorW.PrintMore
set_option linter.unusedSimpArgs false
set_option linter.unusedVariables false
def spaceB (a1 : ByteArray) (sp : Int) : Bool := decide ((a1.toList = [] ∧ sp = 3) ∨ (a1.toList ≠ [] ∧ sp = 1))
def slashB (a2 : ByteArray) : Bool := decide (0 ≤ Lib.indexByte a2.data.toList 47)
def dirtyAll (a1 a2 a3 a5 : ByteArray) (l : List S64) : Bool := [a1, a2, a3, a5].any dirtyB || l.any (fun q => dirtyB q.f1)
def chkV (a0 a1 a2 a3 : ByteArray) (l : List S64) (a5 : ByteArray) : Int :=
 if (ruleB a0).2.2.2.2.2 = 0 then
  if overB a1 a2 a3 l a5 = true then 3
  else if (spaceB a1 (ruleB a0).2.1 || faultB (segL a1) false) = true then 2
  else if (decide (a2.toList = []) || slashB a2) = true then 8
  else if qlE l l.length 0 = 0 then
   if faultB (segL a5) true = true then 2
   else if dirtyAll a1 a2 a3 a5 l = true then 8 else 0
  else qlE l l.length 0
 else (ruleB a0).2.2.2.2.2
theorem over_false {a1 a2 a3 a5 : ByteArray} {l : List S64} (h : overB a1 a2 a3 l a5 = false) : a1.size ≤ 200 ∧ a2.size ≤ 200 ∧ a3.size ≤ 200 ∧ a5.size ≤ 200 ∧ l.length ≤ 10 ∧ ∀ q ∈ l, q.f0.size ≤ 200 ∧ q.f1.size ≤ 200 := by
 unfold overB at h
 simp only [List.any_cons, List.any_nil, Bool.or_false, Bool.or_eq_false_iff, over, decide_eq_false_iff_not, List.any_eq_false] at h
 obtain ⟨⟨h1, h2, h3, h5⟩, hq, hl⟩ := h
 refine ⟨by omega, by omega, by omega, by omega, by omega, fun q hm => ?_⟩
 have := hq q hm
 unfold qover over at this
 simp only [Bool.or_eq_true, decide_eq_true_eq, not_or] at this
 omega
theorem pk1_gets (l : List S64) (hs : ∀ x ∈ l, x.f1.size ≤ 140737488351232) (d : Nat) : ∀ i, i + d = l.length → Gets (fun k => pk1 k l d i) ((l.drop i).any fun q => dirtyB q.f1) := by
 induction d with
 | zero =>
  intro i hi
  rw [List.drop_of_length_le (by omega)]
  exact Gets.pure _
 | succ d ih =>
  intro i hi
  have hih := ih (i + 1) (by omega)
  have hm := hs _ (rd64_mem l i (by omega))
  rw [rd64_drop l i (by omega)]
  simp only [pk1, List.any_cons]
  refine Gets.bind (purl_control_gets _ hm) ?_
  by_cases h : dirtyB (rd_T64 l i).f1 = true
  ·simp only [h, if_true, Bool.true_or]; exact Gets.pure _
  ·rw [Bool.not_eq_true] at h
   simp only [h, Bool.false_eq_true, if_false, Bool.false_or]; exact hih
theorem pk0_gets (xs : List ByteArray) (hs : ∀ x ∈ xs, x.size ≤ 140737488351232) (d : Nat) : ∀ i, i + d = xs.length → Gets (fun k => pk0 k xs d i) ((xs.drop i).any dirtyB) := by
 induction d with
 | zero =>
  intro i hi
  rw [List.drop_of_length_le (by omega)]
  exact Gets.pure _
 | succ d ih =>
  intro i hi
  have hih := ih (i + 1) (by omega)
  have hd := rdOf_drop xs i (by omega)
  have hm := hs (rdOf ByteArray.empty xs (i : Int)) (List.mem_of_mem_drop (i := i) (by rw [hd]; exact List.mem_cons_self))
  rw [hd]
  simp only [pk0, List.any_cons]
  refine Gets.bind (purl_control_gets _ hm) ?_
  by_cases h : dirtyB (rdOf ByteArray.empty xs (i : Int)) = true
  ·simp only [h, if_true, Bool.true_or]; exact Gets.pure _
  ·rw [Bool.not_eq_true] at h
   simp only [h, Bool.false_eq_true, if_false, Bool.false_or]; exact hih
def chkW (a1 a2 a3 : ByteArray) (l : List S64) (a5 : ByteArray) : Int :=
 if faultB (segL a1) false = true then 2
 else if (decide (a2.toList = []) || slashB a2) = true then 8
 else if qlE l l.length 0 = 0 then
  if faultB (segL a5) true = true then 2
  else if dirtyAll a1 a2 a3 a5 l = true then 8 else 0
 else qlE l l.length 0
theorem pk2_gets (a1 a2 a3 : ByteArray) (l : List S64) (a5 : ByteArray) (h : overB a1 a2 a3 l a5 = false) : Gets (fun k => pk2 k a1 a2 a3 l a5) (chkW a1 a2 a3 l a5) := by
 obtain ⟨h1, h2, h3, h5, hl, hq⟩ := over_false h
 unfold pk2 chkW
 refine Gets.bind (Gets.of (purl_segs a1 (by omega))) (Gets.bind (purl_fault _ (by have := segL_len a1; omega) false) ?_)
 by_cases g1 : faultB (segL a1) false = true
 ·simp only [g1, if_true]; exact Gets.pure _
 ·simp only [g1, if_false, Bool.false_eq_true]
  unfold pk3
  by_cases g2 : a2.toList = []
  ·simp only [g2, if_true, decide_true, Bool.true_or]; exact Gets.pure _
  ·simp only [g2, if_false, decide_false, Bool.false_or]
   refine Gets.bind (a := Lib.indexByte a2.data.toList 47) (Gets.of (show lib_IndexByte.f a2 47 = some (Lib.indexByte a2.data.toList 47) from rfl)) ?_
   by_cases g3 : 0 ≤ Lib.indexByte a2.data.toList 47
   ·have e : slashB a2 = true := decide_eq_true g3
    simp only [e, if_true, g3]; exact Gets.pure _
   ·have e : slashB a2 = false := decide_eq_false g3
    simp only [e, Bool.false_eq_true, if_false, g3]
    unfold pk4
    refine Gets.bind (purl_ql l (by omega) (fun x hx => by have := hq x hx; omega)) ?_
    by_cases g4 : qlE l l.length 0 = 0
    ·simp only [g4, if_true]
     unfold pk5
     refine Gets.bind (Gets.of (purl_segs a5 (by omega))) (Gets.bind (purl_fault _ (by have := segL_len a5; omega) true) ?_)
     by_cases g5 : faultB (segL a5) true = true
     ·simp only [g5, if_true]; exact Gets.pure _
     ·simp only [g5, if_false, Bool.false_eq_true]
      have hall : ∀ x ∈ [a1, a2, a3, a5], x.size ≤ 140737488351232 := by
       intro x hx
       simp only [List.mem_cons, List.mem_nil_iff, or_false] at hx
       rcases hx with rfl | rfl | rfl | rfl <;> omega
      refine Gets.bind (pk0_gets [a1, a2, a3, a5] hall 4 0 rfl) ?_
      rw [List.drop_zero]
      have e1 : dirtyAll a1 a2 a3 a5 l = ([a1, a2, a3, a5].any dirtyB || l.any fun q => dirtyB q.f1) := rfl
      rw [e1]
      by_cases g6 : [a1, a2, a3, a5].any dirtyB = true
      ·simp only [g6, if_true, Bool.true_or]; exact Gets.pure _
      ·rw [Bool.not_eq_true] at g6
       simp only [g6, Bool.false_eq_true, if_false, Bool.false_or]
       refine Gets.bind (pk1_gets l (fun x hx => by have := hq x hx; omega) l.length 0 (by omega)) ?_
       rw [List.drop_zero]
       by_cases g7 : (l.any fun q => dirtyB q.f1) = true
       ·simp only [g7, if_true]; exact Gets.pure _
       ·rw [Bool.not_eq_true] at g7
        simp only [g7, Bool.false_eq_true, if_false]; exact Gets.pure _
    ·simp only [g4, if_false]; exact Gets.pure _
theorem chkV_over {a0 a1 a2 a3 a5 : ByteArray} {l : List S64} (h0 : (ruleB a0).2.2.2.2.2 = 0) (h : overB a1 a2 a3 l a5 = false) : chkV a0 a1 a2 a3 l a5 = if spaceB a1 (ruleB a0).2.1 = true then 2 else chkW a1 a2 a3 l a5 := by
 unfold chkV chkW
 rw [if_pos h0, if_neg (by rw [h]; decide)]
 by_cases g : spaceB a1 (ruleB a0).2.1 = true
 ·simp only [g, Bool.true_or, if_true]
 ·rw [Bool.not_eq_true] at g
  simp only [g, Bool.false_or, Bool.false_eq_true, if_false]
theorem purl_Check_gets (a0 a1 a2 a3 : ByteArray) (l : List S64) (hl : l.length ≤ 9223372036854775806) (a5 : ByteArray) : Gets (fun k => purl_Check.f k a0 a1 a2 a3 l a5) (chkV a0 a1 a2 a3 l a5) := by
 unfold purl_Check.f
 rw [purl_Rule_eq]
 simp only [Option.bind_some]
 by_cases h0 : (ruleB a0).2.2.2.2.2 = 0
 ·simp only [h0, if_true]
  refine Gets.bind (purl_long_gets a0 a1 a2 a3 l hl a5) ?_
  cases h : overB a1 a2 a3 l a5 with
  | true => simp only [if_true]; exact Gets.congr (Gets.pure 3) (by unfold chkV; rw [if_pos h0, if_pos h])
  | false =>
   simp only [Bool.false_eq_true, if_false]
   rw [chkV_over h0 h]
   by_cases g : (a1.toList = [] ∧ (ruleB a0).2.1 = 3) ∨ (a1.toList ≠ [] ∧ (ruleB a0).2.1 = 1)
   ·have e : spaceB a1 (ruleB a0).2.1 = true := decide_eq_true g
    rw [if_pos e]
    simp only [g, if_true]
    exact Gets.pure _
   ·have e : spaceB a1 (ruleB a0).2.1 = false := decide_eq_false g
    rw [if_neg (by rw [e]; decide)]
    simp only [g, if_false]
    exact pk2_gets a1 a2 a3 l a5 h
 ·simp only [h0, if_false]
  exact Gets.congr (Gets.pure _) (by unfold chkV; rw [if_neg h0])
theorem ckL2_gets (l : List S64) (hs : ∀ x ∈ l, x.f1.size ≤ 140737488351232) (d : Nat) : ∀ i c, i + d = l.length → Gets (fun k => ckL2 k l d i c) (c && !((l.drop i).any (fun q => dirtyB q.f1))) := by
 induction d with
 | zero =>
  intro i c hi
  rw [List.drop_of_length_le (by omega)]
  exact Gets.congr (Gets.pure c) (by cases c <;> rfl)
 | succ d ih =>
  intro i c hi
  have hm := hs _ (rd64_mem l i (by omega))
  rw [rd64_drop l i (by omega)]
  simp only [ckL2, List.any_cons]
  cases c with
  | true =>
   simp only [if_true]
   refine Gets.bind (ref_clean _ hm) (Gets.congr (ih (i + 1) _ (by omega)) ?_)
   rw [Bool.not_or, Bool.true_and]
  | false =>
   simp only [Bool.false_eq_true, if_false]
   exact Gets.bind (Gets.pure false) (ih (i + 1) false (by omega))
theorem ck1_gets (a1 a2 a3 : ByteArray) (l : List S64) (a5 : ByteArray) (h : overB a1 a2 a3 l a5 = false) (sp : Int) : Gets (fun k => ck1 k a1 a2 a3 l a5 sp) (if spaceB a1 sp = true then 2 else chkW a1 a2 a3 l a5) := by
 obtain ⟨h1, h2, h3, h5, hl, hq⟩ := over_false h
 unfold ck1
 by_cases g0 : (a1.toList = [] ∧ sp = 3) ∨ (a1.toList ≠ [] ∧ sp = 1)
 ·have e : spaceB a1 sp = true := decide_eq_true g0
  rw [if_pos e]
  simp only [g0, if_true, Option.bind_some]
  exact Gets.pure _
 ·have e : spaceB a1 sp = false := decide_eq_false g0
  rw [if_neg (by rw [e]; decide)]
  simp only [g0, if_false]
  unfold chkW
  refine Gets.bind (ref_bad a1 (by omega) false) ?_
  by_cases g1 : faultB (segL a1) false = true
  ·simp only [g1, if_true]; exact Gets.pure _
  ·simp only [g1, if_false, Bool.false_eq_true]
   unfold ck2
   have hn : (if a2.toList = [] then some true else lib_Contains.f a2 ⟨#[47]⟩) = some (decide (a2.toList = []) || slashB a2) := by
    by_cases g2 : a2.toList = []
    ·rw [if_pos g2, decide_eq_true g2]; rfl
    ·rw [if_neg g2, decide_eq_false g2]; rfl
   rw [hn]
   simp only [Option.bind_some]
   by_cases g3 : (decide (a2.toList = []) || slashB a2) = true
   ·simp only [g3, if_true]; exact Gets.pure _
   ·simp only [g3, if_false, Bool.false_eq_true]
    unfold ck3
    refine Gets.bind (ckL1_gets l (fun x hx => by have := hq x hx; omega) l.length 0 (by omega)) ?_
    by_cases g4 : qlE l l.length 0 = 0
    ·simp only [g4, if_true]
     unfold ck4
     refine Gets.bind (ref_bad a5 (by omega) true) ?_
     by_cases g5 : faultB (segL a5) true = true
     ·simp only [g5, if_true]; exact Gets.pure _
     ·simp only [g5, if_false, Bool.false_eq_true]
      have step : ∀ (c : Bool) (a : ByteArray), a.size ≤ 200 → Gets (fun k => if c = true then r2_clean.f k a else some false) (c && !dirtyB a) := fun c a ha => by
       cases c with
       | true => simp only [if_true, Bool.true_and]; exact ref_clean a (by omega)
       | false => simp only [Bool.false_eq_true, if_false, Bool.false_and]; exact Gets.pure _
      refine Gets.bind (ref_clean a1 (by omega)) (Gets.bind (step _ a2 h2) (Gets.bind (step _ a3 h3) (Gets.bind (step _ a5 h5) ?_)))
      unfold ck5
      refine Gets.bind (ckL2_gets l (fun x hx => by have := hq x hx; omega) l.length 0 _ (by omega)) ?_
      rw [List.drop_zero]
      have e2 : (!dirtyB a1 && !dirtyB a2 && !dirtyB a3 && !dirtyB a5 && !l.any fun q => dirtyB q.f1) = !dirtyAll a1 a2 a3 a5 l := by
       unfold dirtyAll
       simp only [List.any_cons, List.any_nil, Bool.or_false, Bool.not_or, Bool.and_assoc]
      rw [e2]
      cases dirtyAll a1 a2 a3 a5 l with
      | true => simp only [Bool.not_true, Bool.false_eq_true, if_false, if_true]; exact Gets.pure _
      | false => simp only [Bool.not_false, Bool.false_eq_true, if_false, if_true]; exact Gets.pure _
    ·simp only [g4, if_false]; exact Gets.pure _
theorem ref_Check_gets (a0 a1 a2 a3 : ByteArray) (l : List S64) (hl : l.length ≤ 9223372036854775806) (a5 : ByteArray) : Gets (fun k => r2_Check.f k a0 a1 a2 a3 l a5) (chkV a0 a1 a2 a3 l a5) := by
 unfold r2_Check.f
 refine Gets.bind (ref_Rule a0) ?_
 by_cases h0 : (ruleB a0).2.2.2.2.2 = 0
 ·simp only [h0, if_true]
  refine Gets.bind (ref_long [a1, a2, a3, a5] (by simp)) ?_
  cases h : overB a1 a2 a3 l a5 with
  | true =>
   have hv : chkV a0 a1 a2 a3 l a5 = 3 := by unfold chkV; rw [if_pos h0, if_pos h]
   rw [hv]
   by_cases g1 : [a1, a2, a3, a5].any over = true
   ·simp only [g1, if_true]; exact Gets.pure _
   ·simp only [g1, if_false, Bool.false_eq_true]
    by_cases g2 : (l.length : Int) > 10
    ·simp only [g2, if_true]; exact Gets.pure _
    ·simp only [g2, if_false]
     unfold ck0
     refine Gets.bind (ckL0_gets l l.length 0 (by omega)) ?_
     rw [List.drop_zero]
     have g3 : l.any qover = true := by
      unfold overB at h
      rw [Bool.not_eq_true] at g1
      rw [g1, decide_eq_false g2, Bool.false_or, Bool.or_false] at h
      exact h
     simp only [g3, if_true]; exact Gets.pure _
  | false =>
   rw [chkV_over h0 h]
   have hh := h
   unfold overB at hh
   rw [Bool.or_eq_false_iff, Bool.or_eq_false_iff, decide_eq_false_iff_not] at hh
   simp only [hh.1, hh.2.2, Bool.false_eq_true, if_false]
   unfold ck0
   refine Gets.bind (ckL0_gets l l.length 0 (by omega)) ?_
   rw [List.drop_zero]
   simp only [hh.2.1, Bool.false_eq_true, if_false]
   exact ck1_gets a1 a2 a3 l a5 h _
 ·simp only [h0, if_false]
  exact Gets.congr (Gets.pure _) (by unfold chkV; rw [if_neg h0])
end Go.Proofs.YtmnfjbmhlabdaaaDoor.Pr
namespace Go.Proofs.YtmnfjbmhlabdaaaDoor.Pr
open Go.RowKit Go.Proofs.YtmnfjbmhlabdaaaDoorW.PrintWords Go.Proofs.YtmnfjbmhlabdaaaDoorW.PrintLast Go.Proofs.YtmnfjbmhlabdaaaDoorW.PrintMore
set_option linter.unusedSimpArgs false
set_option linter.unusedVariables false
theorem bt_byte (s : ByteArray) (k : Nat) (hk : k < s.size) : bt s (k : Int) = ((s.data.toList[k]'(by simpa using hk)).toNat : Int) := by
 simp [bt, hk]; rfl
def intsOf (l : List UInt8) : List Int := l.map fun c => (c.toNat : Int)
theorem nums_of (l : List UInt8) : strOfNums (intsOf l) = ⟨l.toArray⟩ := by
 unfold strOfNums intsOf
 rw [List.map_map]
 congr 2
 exact (List.map_congr_left (fun c _ => by simp)).trans (List.map_id l)
theorem dash_is (c : UInt8) : isDashC c = true ↔ ((c.toNat : Int) = 45 ∨ (c.toNat : Int) = 95 ∨ (c.toNat : Int) = 46) := by
 unfold isDashC
 simp only [Bool.or_eq_true, beq_iff_eq, or_assoc]
 omega
theorem dash_go_len (l : List UInt8) : ∀ p, (dashGo p l).length ≤ l.length := by
 induction l with
 | nil => intro p; simp [dashGo]
 | cons c r ih =>
  intro p
  simp only [dashGo]
  split
  ·split
   ·have := ih true; simp only [List.length_cons]; omega
   ·have := ih true; simp only [List.length_cons]; omega
  ·have := ih false; simp only [List.length_cons]; omega
theorem dash_loop (s : ByteArray) (hs : s.size ≤ 100000) (d : Nat) : ∀ (i : Nat) (xs : List UInt8) (p : Bool), i + d = s.size → xs.length ≤ i → (p = true ↔ ∃ ys, xs = ys ++ [45]) → Gets (fun k => r2_dashed.l0 k s (intsOf xs) (i : Int)) ⟨(xs ++ dashGo p (s.data.toList.drop i)).toArray⟩ := by
 have hl : s.data.toList.length = s.size := by simp
 induction d with
 | zero =>
  intro i xs p hi hx hp
  refine Gets.succ ?_
  simp only [r2_dashed.l0, show ((i : Int) < (s.size : Int)) = False from eq_false (by omega), if_false]
  rw [List.drop_of_length_le (by omega), nums_of]
  simp only [dashGo, List.append_nil]
  exact Gets.pure _
 | succ d ih =>
  intro i xs p hi hx hp
  have hb := bt_byte s i (by omega)
  rw [List.drop_eq_getElem_cons (show i < s.data.toList.length by omega)]
  generalize hc : (s.data.toList[i]'(by omega)) = c at *
  have hlen : (intsOf xs).length = xs.length := by simp [intsOf]
  have snoc : ∀ b : UInt8, intsOf xs ++ [(b.toNat : Int)] = intsOf (xs ++ [b]) := fun b => by simp [intsOf]
  refine Gets.succ ?_
  simp only [r2_dashed.l0, show ((i : Int) < (s.size : Int)) = True from eq_true (by omega), show ((0 : Int) ≤ (i : Int)) = True from eq_true (by omega), if_true]
  rw [hb]
  have hw := wrap_succ i (by omega)
  by_cases hd : isDashC c = true
  ·have main : Gets (fun k => r2_dashed.j1 k s (intsOf xs) (i : Int) (c.toNat : Int) true) ⟨(xs ++ dashGo p (c :: s.data.toList.drop (i + 1))).toArray⟩ := by
    refine Gets.succ ?_
    simp only [r2_dashed.j1, if_true, hw, hlen]
    have app : p = false → Gets (fun k => r2_dashed.l0 k s (intsOf xs ++ [45]) ((i + 1 : Nat) : Int)) ⟨(xs ++ dashGo p (c :: s.data.toList.drop (i + 1))).toArray⟩ := fun hpf => by
     have h := ih (i + 1) (xs ++ [45]) true (by omega) (by simp; omega) ⟨fun _ => ⟨xs, rfl⟩, fun _ => rfl⟩
     have e : intsOf (xs ++ [45]) = intsOf xs ++ [45] := by simp [intsOf]
     rw [e] at h
     refine Gets.congr h ?_
     subst hpf
     simp only [dashGo, hd, if_true, Bool.false_eq_true, if_false, List.append_assoc, List.singleton_append]
    by_cases h0 : (xs.length : Int) = 0
    ·have hx0 : xs = [] := List.length_eq_zero_iff.mp (by omega)
     have hpf : p = false := by
      rcases Bool.eq_false_or_eq_true p with h | h
      ·obtain ⟨ys, hy⟩ := hp.mp h
       rw [hx0] at hy
       simp at hy
      ·exact h
     simp only [h0, if_true, show (xs.length < 140737488355328) = True from eq_true (by omega)]
     exact app hpf
    ·simp only [h0, if_false]
     have hpos : 0 < xs.length := by omega
     have hw2 : wrap64 ((xs.length : Int) - 1) = ((xs.length - 1 : Nat) : Int) := by unfold wrap64; omega
     obtain ⟨ys, b, hyb⟩ : ∃ ys b, xs = ys ++ [b] := ⟨xs.dropLast, xs.getLast (by intro e; rw [e] at hpos; simp at hpos), (List.dropLast_concat_getLast _).symm⟩
     have hrd : rd (intsOf xs) ((xs.length - 1 : Nat) : Int) = (b.toNat : Int) := by
      unfold rd intsOf
      rw [hyb, Int.toNat_natCast]
      simp
     simp only [hw2, show ((0 : Int) ≤ ((xs.length - 1 : Nat) : Int)) = True from eq_true (by omega), show (((xs.length - 1 : Nat) : Int) < (xs.length : Int)) = True from eq_true (by omega), if_true, hrd, show (xs.length < 140737488355328) = True from eq_true (by omega)]
     by_cases hb45 : (b.toNat : Int) = 45
     ·simp only [hb45, if_true]
      have hpt : p = true := hp.mpr ⟨ys, by rw [hyb]; congr 2; exact UInt8.toNat_inj.mp (by have h45 : (45 : UInt8).toNat = 45 := rfl; omega)⟩
      have h := ih (i + 1) xs true (by omega) (by omega) ⟨fun _ => hp.mp hpt, fun _ => rfl⟩
      refine Gets.congr h ?_
      rw [hpt]
      simp only [dashGo, hd, if_true]
     ·simp only [hb45, if_false]
      refine app ?_
      rcases Bool.eq_false_or_eq_true p with h | h
      ·obtain ⟨zs, hz⟩ := hp.mp h
       have e2 := List.append_inj_right' (hyb.symm.trans hz) rfl
       simp only [List.cons.injEq, and_true] at e2
       rw [e2] at hb45
       exact absurd rfl hb45
      ·exact h
   rcases (dash_is c).mp hd with h | h | h
   ·simp only [h, if_true] at main ⊢; exact main
   ·simp only [h, if_true, show ((95 : Int) = 45) = False from eq_false (by decide), if_false] at main ⊢; exact main
   ·simp only [h, if_true, show ((46 : Int) = 45) = False from eq_false (by decide), show ((46 : Int) = 95) = False from eq_false (by decide), if_false, beq_self_eq_true] at main ⊢; exact main
  ·have hn : ¬ ((c.toNat : Int) = 45 ∨ (c.toNat : Int) = 95 ∨ (c.toNat : Int) = 46) := fun e => hd ((dash_is c).mpr e)
   have h1 : ¬ (c.toNat : Int) = 45 := fun e => hn (Or.inl e)
   have h2 : ¬ (c.toNat : Int) = 95 := fun e => hn (Or.inr (Or.inl e))
   have h3 : ((c.toNat : Int) == 46) = false := beq_eq_false_iff_ne.mpr (fun e => hn (Or.inr (Or.inr e)))
   simp only [h1, h2, h3, if_false]
   refine Gets.succ ?_
   simp only [r2_dashed.j1, Bool.false_eq_true, if_false, hw, hlen, show (xs.length < 140737488355328) = True from eq_true (by omega), if_true]
   rw [snoc c]
   have hq : ((false : Bool) = true ↔ ∃ ys, xs ++ [c] = ys ++ [45]) := by
    constructor
    ·intro e
     cases e
    ·rintro ⟨ys, hy⟩
     have e2 := List.append_inj_right' hy rfl
     simp only [List.cons.injEq, and_true] at e2
     rw [e2] at h1
     exact absurd rfl h1
   have h := ih (i + 1) (xs ++ [c]) false (by omega) (by simp; omega) hq
   refine Gets.congr h ?_
   simp only [dashGo, hd, Bool.false_eq_true, if_false, List.append_assoc, List.singleton_append]
theorem ref_dashed (s : ByteArray) (hs : s.size ≤ 100000) : Gets (fun k => r2_dashed.f k s) (dashS s) := by
 have hq : ((false : Bool) = true ↔ ∃ ys : List UInt8, ([] : List UInt8) = ys ++ [45]) := by
  constructor
  ·intro e
   cases e
  ·rintro ⟨ys, hy⟩
   simp at hy
 have h := dash_loop s hs s.size 0 [] false (by omega) (by simp) hq
 rw [List.drop_zero, List.nil_append] at h
 exact h
theorem smallS_size (a : ByteArray) : (smallS a).size = a.size := by
 show (a.data.toList.map smallC).toArray.size = a.data.size
 rw [List.size_toArray, List.length_map, Array.length_toList]
theorem dashS_size (a : ByteArray) : (dashS a).size ≤ a.size := by
 show (dashGo false a.data.toList).toArray.size ≤ a.data.size
 have := dash_go_len a.data.toList false
 rw [Array.length_toList] at this
 rw [List.size_toArray]
 exact this
def canB (a0 a1 a2 a3 : ByteArray) (l : List S64) (a5 : ByteArray) : ByteArray × ByteArray × ByteArray × ByteArray × List S64 × ByteArray :=
 (a0, (if (ruleB a0).2.2.1 = true then smallS a1 else a1), (if (ruleB a0).2.2.2.1 = true then dashS (if (ruleB a0).2.2.1 = true then smallS a2 else a2) else (if (ruleB a0).2.2.1 = true then smallS a2 else a2)), a3, l, a5)
theorem purl_can (a0 a1 a2 a3 : ByteArray) (l : List S64) (a5 : ByteArray) (h1 : a1.size ≤ 200) (h2 : a2.size ≤ 200) (hl : l.length ≤ 10) : purl_canonical.f a0 a1 a2 a3 l a5 = some (canB a0 a1 a2 a3 l a5) := by
 unfold purl_canonical.f canB
 rw [if_pos (by omega), purl_Rule_eq, Option.bind_some]
 unfold purl_small.f purl_dashed.f
 simp only [show (a1.size < 9223372036854775807) = True from eq_true (by omega), show (a2.size < 9223372036854775807) = True from eq_true (by omega), if_true, Option.bind_some]
 have hz : (smallS a2).size ≤ 140737488355328 := by rw [smallS_size]; omega
 have hz2 : a2.size ≤ 140737488355328 := by omega
 cases (ruleB a0).2.2.1 <;> cases (ruleB a0).2.2.2.1 <;> simp [hz, hz2]
theorem ref_can (a0 a1 a2 a3 : ByteArray) (l : List S64) (a5 : ByteArray) (h1 : a1.size ≤ 200) (h2 : a2.size ≤ 200) (hl : l.length ≤ 10) : Gets (fun k => r2_canonical.f k a0 a1 a2 a3 l a5) (canB a0 a1 a2 a3 l a5) := by
 unfold r2_canonical.f
 simp only [show (l.length < 4398046511104) = True from eq_true (by omega), if_true]
 refine Gets.bind (ref_Rule a0) ?_
 unfold r2_small.f canB
 simp only [show (a1.size < 9223372036854775807) = True from eq_true (by omega), show (a2.size < 9223372036854775807) = True from eq_true (by omega), if_true, Option.bind_some]
 have d1 := ref_dashed (smallS a2) (by rw [smallS_size]; omega)
 have d2 := ref_dashed a2 (by omega)
 cases (ruleB a0).2.2.1 <;> cases (ruleB a0).2.2.2.1 <;> simp only [Bool.false_eq_true, if_false, if_true, Option.bind_some]
 ·exact Gets.pure _
 ·exact Gets.bind d2 (Gets.pure _)
 ·exact Gets.pure _
 ·exact Gets.bind d1 (Gets.pure _)
end Go.Proofs.YtmnfjbmhlabdaaaDoor.Pr
namespace Go.Proofs.YtmnfjbmhlabdaaaDoor.Pr
open Go.RowKit Go.Proofs.YtmnfjbmhlabdaaaDoorW.PrintWords Go.Proofs.YtmnfjbmhlabdaaaDoorW.PrintLast Go.Proofs.YtmnfjbmhlabdaaaDoorW.PrintMore
set_option linter.unusedSimpArgs false
set_option linter.unusedVariables false
def Y1 (a0 a1 : ByteArray) : ByteArray := if (ruleB a0).2.2.1 = true then smallS a1 else a1
def Z2 (a0 a2 : ByteArray) : ByteArray := if (ruleB a0).2.2.2.1 = true then dashS (if (ruleB a0).2.2.1 = true then smallS a2 else a2) else (if (ruleB a0).2.2.1 = true then smallS a2 else a2)
theorem can_eq (a0 a1 a2 a3 : ByteArray) (l : List S64) (a5 : ByteArray) : canB a0 a1 a2 a3 l a5 = (a0, Y1 a0 a1, Z2 a0 a2, a3, l, a5) := rfl
theorem Y1_size (a0 a1 : ByteArray) : (Y1 a0 a1).size ≤ a1.size := by
 unfold Y1
 split
 ·rw [smallS_size]; exact Nat.le_refl _
 ·exact Nat.le_refl _
theorem Z2_size (a0 a2 : ByteArray) : (Z2 a0 a2).size ≤ a2.size := by
 have h : (if (ruleB a0).2.2.1 = true then smallS a2 else a2).size ≤ a2.size := Y1_size a0 a2
 unfold Z2
 split
 ·exact Nat.le_trans (dashS_size _) h
 ·exact h
theorem chkV_zero {a0 a1 a2 a3 a5 : ByteArray} {l : List S64} (h : chkV a0 a1 a2 a3 l a5 = 0) : (ruleB a0).2.2.2.2.2 = 0 ∧ overB a1 a2 a3 l a5 = false := by
 unfold chkV at h
 by_cases h0 : (ruleB a0).2.2.2.2.2 = 0
 ·rw [if_pos h0] at h
  by_cases h1 : overB a1 a2 a3 l a5 = true
  ·rw [if_pos h1] at h; exact absurd h (by decide)
  ·exact ⟨h0, by rw [Bool.not_eq_true] at h1; exact h1⟩
 ·rw [if_neg h0] at h; exact absurd h h0
section
variable (a0 a1 a2 a3 : ByteArray) (l : List S64) (a5 : ByteArray) (hl : l.length ≤ 9223372036854775806)
include hl
def canV : ByteArray × ByteArray × ByteArray × ByteArray × List S64 × ByteArray × Int := if chkV a0 a1 a2 a3 l a5 = 0 then (a0, Y1 a0 a1, Z2 a0 a2, a3, l, a5, 0) else (⟨#[]⟩, ⟨#[]⟩, ⟨#[]⟩, ⟨#[]⟩, [], ⟨#[]⟩, chkV a0 a1 a2 a3 l a5)
omit hl in
theorem canV_len (hl : l.length ≤ 9223372036854775806) : (canV a0 a1 a2 a3 l a5).2.2.2.2.1.length ≤ 9223372036854775806 := by
 unfold canV
 split
 ·exact hl
 ·simp
theorem purl_Canonical_gets : Gets (fun k => purl_Canonical.f k a0 a1 a2 a3 l a5) (canV a0 a1 a2 a3 l a5) := by
 unfold purl_Canonical.f canV
 refine Gets.bind (purl_Check_gets a0 a1 a2 a3 l hl a5) ?_
 by_cases h : chkV a0 a1 a2 a3 l a5 = 0
 ·obtain ⟨h0, hov⟩ := chkV_zero h
  obtain ⟨s1, s2, s3, s5, sl, sq⟩ := over_false hov
  simp only [h, if_true]
  rw [purl_can a0 a1 a2 a3 l a5 s1 s2 sl, can_eq]
  simp only [Option.bind_some]
  exact Gets.pure _
 ·simp only [h, if_false]
  exact Gets.pure _
theorem ref_Canonical_gets : Gets (fun k => r2_Canonical.f k a0 a1 a2 a3 l a5) (canV a0 a1 a2 a3 l a5) := by
 unfold r2_Canonical.f canV
 refine Gets.bind (ref_Check_gets a0 a1 a2 a3 l hl a5) ?_
 by_cases h : chkV a0 a1 a2 a3 l a5 = 0
 ·obtain ⟨h0, hov⟩ := chkV_zero h
  obtain ⟨s1, s2, s3, s5, sl, sq⟩ := over_false hov
  simp only [h, if_true]
  refine Gets.bind (ref_can a0 a1 a2 a3 l a5 s1 s2 sl) ?_
  rw [can_eq]
  exact Gets.pure _
 ·simp only [h, if_false]
  exact Gets.pure _
end
theorem pair_loop (l : List S64) (hl : l.length ≤ 9223372036854775806) (d : Nat) : ∀ i, i + d = l.length → Gets (fun k => api_Pair.l0 k l l (l.length : Int) (i : Int)) true := by
 induction d with
 | zero =>
  intro i hi
  refine Gets.succ ?_
  simp only [api_Pair.l0, show ((i : Int) < (l.length : Int)) = False from eq_false (by omega), if_false]
  exact Gets.pure _
 | succ d ih =>
  intro i hi
  refine Gets.succ ?_
  simp only [api_Pair.l0, show ((i : Int) < (l.length : Int)) = True from eq_true (by omega), show ((0 : Int) ≤ (i : Int)) = True from eq_true (by omega), if_true, beq_self_eq_true, Bool.not_true, Bool.or_self, Bool.false_eq_true, if_false]
  rw [wrap_succ i (by omega)]
  exact ih (i + 1) (by omega)
theorem same_gets (x0 x1 x2 x3 : ByteArray) (l : List S64) (hl : l.length ≤ 9223372036854775806) (x5 : ByteArray) : Gets (fun k => l2_same.f k x0 x1 x2 x3 l x5 x0 x1 x2 x3 l x5) true := by
 unfold l2_same.f
 simp only [if_true]
 refine Gets.bind (a := true) ?_ (Gets.pure _)
 unfold api_Pair.f
 simp only [if_true]
 exact pair_loop l hl l.length 0 (by omega)
end Go.Proofs.YtmnfjbmhlabdaaaDoor.Pr
namespace Go.Proofs.YtmnfjbmhlabdaaaDoor.Pr
open Go.RowKit Go.Proofs.YtmnfjbmhlabdaaaDoorW.PrintWords Go.Proofs.YtmnfjbmhlabdaaaDoorW.PrintLast Go.Proofs.YtmnfjbmhlabdaaaDoorW.PrintMore
set_option linter.unusedSimpArgs false
set_option linter.unusedVariables false
theorem by_all {p : UInt8 → Prop} (h : ∀ n : Fin 256, p (UInt8.ofNat n.val)) (c : UInt8) : p c := by
 have h2 := h ⟨c.toNat, c.toNat_lt⟩
 have e : UInt8.ofNat c.toNat = c := UInt8.ofNat_toNat
 rw [show UInt8.ofNat (⟨c.toNat, c.toNat_lt⟩ : Fin 256).val = c from e] at h2
 exact h2
set_option maxRecDepth 100000 in
theorem smallC_47 (c : UInt8) : smallC c = 47 ↔ c = 47 := by_all (p := fun c => smallC c = 47 ↔ c = 47) (by decide) c
set_option maxRecDepth 100000 in
theorem smallC_idem (c : UInt8) : smallC (smallC c) = smallC c := by_all (p := fun c => smallC (smallC c) = smallC c) (by decide) c
def dirtyC (c : UInt8) : Bool := decide (c.toNat < 32) || c.toNat == 127
set_option maxRecDepth 100000 in
theorem smallC_dirty (c : UInt8) : dirtyC (smallC c) = dirtyC c := by_all (p := fun c => dirtyC (smallC c) = dirtyC c) (by decide) c
theorem idx_small : ∀ l : List UInt8, Lib.index (l.map smallC) [47] = Lib.index l [47]
 | [] => rfl
 | c :: r => by
  have h : (47 == smallC c) = (47 == c) := by
   rw [Bool.eq_iff_iff, beq_iff_eq, beq_iff_eq]
   exact ⟨fun e => ((smallC_47 c).mp e.symm).symm, fun e => ((smallC_47 c).mpr e.symm).symm⟩
  simp only [List.map_cons, Lib.index, idx_small r, List.isPrefixOf, h]
  rfl
theorem splitK_small : ∀ (k : Nat) (l : List UInt8), Lib.splitK [47] 0 k (l.map smallC) = (Lib.splitK [47] 0 k l).map (List.map smallC)
 | 0, l => rfl
 | k + 1, l => by
  simp only [Lib.splitK, idx_small]
  split
  ·rfl
  ·rw [List.map_cons, List.map_take, ← splitK_small k, List.map_drop]
theorem count_small (l : List UInt8) : Lib.count (l.map smallC) [47] = Lib.count l [47] := by
 rw [Lib.count_one, Lib.count_one]
 induction l with
 | nil => rfl
 | cons c r ih =>
  rw [List.map_cons, List.count_cons, List.count_cons, ih]
  have h : (smallC c == 47) = (c == 47) := by
   rw [Bool.eq_iff_iff, beq_iff_eq, beq_iff_eq]
   exact smallC_47 c
  rw [h]
theorem segD (s : ByteArray) : (segL s).map (·.data.toList) = if s.data.toList = [] then [] else Lib.splitK [47] 0 (Lib.count s.data.toList [47]) s.data.toList := by
 unfold segL
 rw [Lib.toList_data]
 split
 ·rfl
 ·exact Lib.splitB_data _ _ _ _
theorem smallS_data (a : ByteArray) : (smallS a).data.toList = a.data.toList.map smallC := rfl
theorem seg_small (s : ByteArray) : (segL (smallS s)).map (·.data.toList) = ((segL s).map (·.data.toList)).map (List.map smallC) := by
 rw [segD, segD, smallS_data, count_small, splitK_small]
 by_cases h : s.data.toList = []
 ·rw [if_pos h, if_pos (by rw [h]; rfl)]; rfl
 ·rw [if_neg h, if_neg (by rw [List.map_eq_nil_iff]; exact h)]
theorem fault_data (l : List ByteArray) : faultB l false = ((l.map (·.data.toList)).any (·.isEmpty) || decide ((l.length : Int) > 10)) := by
 unfold faultB
 congr 1
 rw [List.any_map]
 congr 1
 funext x
 unfold badB
 rw [Lib.toList_data, Bool.false_and, Bool.or_false]
 show (x.data.toList == []) = x.data.toList.isEmpty
 cases x.data.toList <;> rfl
theorem fault_small (s : ByteArray) : faultB (segL (smallS s)) false = faultB (segL s) false := by
 have h := seg_small s
 have hl : (segL (smallS s)).length = (segL s).length := by
  have := congrArg List.length h
  simpa using this
 rw [fault_data, fault_data, h, hl]
 congr 1
 rw [List.any_map]
 congr 1
 funext x
 cases x <;> rfl
theorem dirty_data (s : ByteArray) : dirtyB s = s.data.toList.any dirtyC := by
 have hl : s.data.toList.length = s.size := by simp
 rw [Bool.eq_iff_iff, List.any_eq_true]
 unfold dirtyB dirtyFrom
 rw [decide_eq_true_iff]
 constructor
 ·rintro ⟨j, h1, _, h3⟩
  rw [bt_byte s j h1] at h3
  refine ⟨s.data.toList[j]'(by omega), List.getElem_mem (by omega), ?_⟩
  unfold dirtyC
  unfold dirtyP at h3
  rw [Bool.or_eq_true, decide_eq_true_iff, beq_iff_eq]
  omega
 ·rintro ⟨c, hc, h3⟩
  obtain ⟨j, hj, rfl⟩ := List.mem_iff_getElem.1 hc
  refine ⟨j, by omega, by omega, ?_⟩
  rw [bt_byte s j (by omega)]
  unfold dirtyC at h3
  unfold dirtyP
  rw [Bool.or_eq_true, decide_eq_true_iff, beq_iff_eq] at h3
  omega
theorem dirty_small (s : ByteArray) : dirtyB (smallS s) = dirtyB s := by
 rw [dirty_data, dirty_data, smallS_data, List.any_map]
 congr 1
 funext c
 exact smallC_dirty c
theorem dash_mem (l : List UInt8) : ∀ p c, c ∈ dashGo p l → c = 45 ∨ c ∈ l := by
 induction l with
 | nil => intro p c h; simp [dashGo] at h
 | cons b r ih =>
  intro p c h
  simp only [dashGo] at h
  split at h
  ·split at h
   ·rcases ih _ _ h with h | h
    ·exact .inl h
    ·exact .inr (List.mem_cons_of_mem _ h)
   ·rcases List.mem_cons.1 h with h | h
    ·exact .inl h
    ·rcases ih _ _ h with h | h
     ·exact .inl h
     ·exact .inr (List.mem_cons_of_mem _ h)
  ·rcases List.mem_cons.1 h with h | h
   ·exact .inr (by rw [h]; exact List.mem_cons_self)
   ·rcases ih _ _ h with h | h
    ·exact .inl h
    ·exact .inr (List.mem_cons_of_mem _ h)
theorem dash_data (a : ByteArray) : (dashS a).data.toList = dashGo false a.data.toList := rfl
theorem dirty_dash (s : ByteArray) (h : dirtyB s = false) : dirtyB (dashS s) = false := by
 rw [dirty_data, List.any_eq_false] at h ⊢
 intro c hc
 rw [dash_data] at hc
 rcases dash_mem _ _ _ hc with rfl | hc
 ·decide
 ·exact h c hc
theorem dash_ne (l : List UInt8) (h : l ≠ []) : dashGo false l ≠ [] := by
 cases l with
 | nil => exact absurd rfl h
 | cons c r =>
  simp only [dashGo]
  split
  ·simp
  ·simp
theorem dash_idem (l : List UInt8) : ∀ p q : Bool, (p = true → q = true) → dashGo p (dashGo q l) = dashGo q l := by
 induction l with
 | nil => intro p q _; rfl
 | cons c r ih =>
  intro p q hpq
  simp only [dashGo]
  by_cases hd : isDashC c = true
  ·simp only [hd, if_true]
   cases q with
   | true => simp only [if_true]; exact ih p true (fun _ => rfl)
   | false =>
    have hp : p = false := by
     cases p with
     | true => exact absurd (hpq rfl) (by decide)
     | false => rfl
    subst hp
    simp only [Bool.false_eq_true, if_false, dashGo, show isDashC 45 = true from rfl, if_true]
    rw [ih true true (fun _ => rfl)]
  ·simp only [hd, if_false, Bool.false_eq_true, dashGo]
   rw [ih false false (fun h => h)]
theorem small_fix (l : List UInt8) (h : ∀ c ∈ l, smallC c = c) : l.map smallC = l := by
 conv => rhs; rw [← List.map_id l]
 exact List.map_congr_left h
theorem small_dash (l : List UInt8) (h : ∀ c ∈ l, smallC c = c) (p : Bool) : (dashGo p l).map smallC = dashGo p l := by
 refine small_fix _ (fun c hc => ?_)
 rcases dash_mem _ _ _ hc with rfl | hc
 ·rfl
 ·exact h c hc
theorem small_small (l : List UInt8) : ∀ c ∈ l.map smallC, smallC c = c := by
 intro c hc
 obtain ⟨b, _, rfl⟩ := List.mem_map.1 hc
 exact smallC_idem b
theorem ba_ext {a b : ByteArray} (h : a.data.toList = b.data.toList) : a = b := by
 cases a; cases b
 congr 1
 exact Array.toList_inj.1 h
theorem Y1_idem (a0 a1 : ByteArray) : Y1 a0 (Y1 a0 a1) = Y1 a0 a1 := by
 unfold Y1
 split
 ·refine ba_ext ?_
  rw [smallS_data, smallS_data]
  exact small_fix _ (small_small _)
 ·rfl
theorem Z2_idem (a0 a2 : ByteArray) : Z2 a0 (Z2 a0 a2) = Z2 a0 a2 := by
 unfold Z2
 by_cases hs : (ruleB a0).2.2.1 = true
 ·by_cases hd : (ruleB a0).2.2.2.1 = true
  ·simp only [hs, hd, if_true]
   refine ba_ext ?_
   simp only [dash_data, smallS_data]
   rw [small_dash _ (small_small _), dash_idem _ _ _ (fun h => h)]
  ·rw [if_neg hd, if_neg hd, if_pos hs, if_pos hs]
   refine ba_ext ?_
   rw [smallS_data, smallS_data]
   exact small_fix _ (small_small _)
 ·by_cases hd : (ruleB a0).2.2.2.1 = true
  ·rw [if_pos hd, if_pos hd, if_neg hs, if_neg hs]
   refine ba_ext ?_
   rw [dash_data, dash_data]
   exact dash_idem _ _ _ (fun h => h)
  ·rw [if_neg hd, if_neg hd, if_neg hs, if_neg hs]
theorem slash_data (a : ByteArray) : slashB a = a.data.toList.contains 47 := by
 unfold slashB
 generalize a.data.toList = l
 induction l with
 | nil => rfl
 | cons c r ih =>
  have hge := Lib.indexByte_ge r 47
  rw [List.contains_cons, ← ih]
  have e0 : Lib.indexByte (c :: r) 47 = (if (c == 47) = true then 0 else if (Lib.indexByte r 47 == -1) = true then -1 else Lib.indexByte r 47 + 1) := rfl
  rw [e0]
  by_cases h : c = 47
  ·subst h; rfl
  ·have h1 : (c == 47) = false := beq_eq_false_iff_ne.mpr h
   have h2 : (47 == c) = false := beq_eq_false_iff_ne.mpr (fun e => h e.symm)
   simp only [h1, h2, Bool.false_eq_true, if_false, Bool.false_or]
   by_cases g : Lib.indexByte r 47 = -1
   ·rw [g]
    exact decide_eq_decide.2 (by decide)
   ·have g2 : (Lib.indexByte r 47 == -1) = false := beq_eq_false_iff_ne.mpr g
    simp only [g2, Bool.false_eq_true, if_false]
    exact decide_eq_decide.2 (by omega)
theorem slash_small (a : ByteArray) : slashB (smallS a) = slashB a := by
 rw [slash_data, slash_data, smallS_data]
 rw [Bool.eq_iff_iff, List.contains_iff_mem, List.contains_iff_mem, List.mem_map]
 exact ⟨fun ⟨c, h1, h2⟩ => (smallC_47 c).mp h2 ▸ h1, fun h => ⟨47, h, rfl⟩⟩
theorem slash_dash (a : ByteArray) (h : slashB a = false) : slashB (dashS a) = false := by
 rw [slash_data, ← Bool.not_eq_true, List.contains_iff_mem] at h ⊢
 rw [dash_data]
 intro hc
 rcases dash_mem _ _ _ hc with hc | hc
 ·exact absurd hc (by decide)
 ·exact h hc
theorem nil_small (a : ByteArray) : (smallS a).toList = [] ↔ a.toList = [] := by
 rw [Lib.toList_data, Lib.toList_data, smallS_data, List.map_eq_nil_iff]
theorem over_le {a b : ByteArray} (h : b.size ≤ a.size) (ho : over a = false) : over b = false := by
 unfold over at *
 rw [decide_eq_false_iff_not] at *
 omega
theorem chkV_parts {a0 a1 a2 a3 a5 : ByteArray} {l : List S64} (h : chkV a0 a1 a2 a3 l a5 = 0) :
  (ruleB a0).2.2.2.2.2 = 0 ∧ overB a1 a2 a3 l a5 = false ∧ spaceB a1 (ruleB a0).2.1 = false ∧ faultB (segL a1) false = false ∧ decide (a2.toList = []) = false ∧ slashB a2 = false ∧ qlE l l.length 0 = 0 ∧ faultB (segL a5) true = false ∧ dirtyAll a1 a2 a3 a5 l = false := by
 obtain ⟨h0, hov⟩ := chkV_zero h
 unfold chkV at h
 rw [if_pos h0, if_neg (by rw [hov]; decide)] at h
 by_cases h1 : (spaceB a1 (ruleB a0).2.1 || faultB (segL a1) false) = true
 ·rw [if_pos h1] at h; exact absurd h (by decide)
 ·rw [if_neg h1] at h
  by_cases h2 : (decide (a2.toList = []) || slashB a2) = true
  ·rw [if_pos h2] at h; exact absurd h (by decide)
  ·rw [if_neg h2] at h
   by_cases h3 : qlE l l.length 0 = 0
   ·rw [if_pos h3] at h
    by_cases h4 : faultB (segL a5) true = true
    ·rw [if_pos h4] at h; exact absurd h (by decide)
    ·rw [if_neg h4] at h
     by_cases h5 : dirtyAll a1 a2 a3 a5 l = true
     ·rw [if_pos h5] at h; exact absurd h (by decide)
     ·rw [Bool.not_eq_true, Bool.or_eq_false_iff] at h1 h2
      rw [Bool.not_eq_true] at h4 h5
      exact ⟨h0, hov, h1.1, h1.2, h2.1, h2.2, h3, h4, h5⟩
   ·rw [if_neg h3] at h; exact absurd h h3
theorem chk_can {a0 a1 a2 a3 a5 : ByteArray} {l : List S64} (h : chkV a0 a1 a2 a3 l a5 = 0) (l' : List S64) : chkV a0 (Y1 a0 a1) (Z2 a0 a2) a3 l' a5 = chkV a0 a1 a2 a3 l' a5 := by
 obtain ⟨h0, hov, hsp, hf, hn, hsl, hq, hf5, hd⟩ := chkV_parts h
 have o := hov
 unfold overB at o
 simp only [List.any_cons, List.any_nil, Bool.or_false, Bool.or_eq_false_iff] at o
 obtain ⟨⟨o1, o2, o3, o5⟩, _⟩ := o
 have d := hd
 unfold dirtyAll at d
 simp only [List.any_cons, List.any_nil, Bool.or_false, Bool.or_eq_false_iff] at d
 obtain ⟨⟨d1, d2, d3, d5⟩, _⟩ := d
 have e1 : overB (Y1 a0 a1) (Z2 a0 a2) a3 l' a5 = overB a1 a2 a3 l' a5 := by
  unfold overB
  simp only [List.any_cons, List.any_nil, o1, o2, o3, o5, over_le (Y1_size a0 a1) o1, over_le (Z2_size a0 a2) o2]
 have e2 : spaceB (Y1 a0 a1) (ruleB a0).2.1 = spaceB a1 (ruleB a0).2.1 := by
  unfold Y1 spaceB
  split
  ·exact decide_eq_decide.2 (by rw [Ne, Ne, nil_small])
  ·rfl
 have e3 : faultB (segL (Y1 a0 a1)) false = faultB (segL a1) false := by
  unfold Y1
  split
  ·exact fault_small a1
  ·rfl
 have e4 : decide ((Z2 a0 a2).toList = []) = decide (a2.toList = []) := by
  rw [hn]
  rw [decide_eq_false_iff_not] at hn ⊢
  have hs : (if (ruleB a0).2.2.1 = true then smallS a2 else a2).toList ≠ [] := by
   split
   ·exact fun e => hn ((nil_small a2).mp e)
   ·exact hn
  unfold Z2
  split
  ·rw [Lib.toList_data, dash_data]
   rw [Ne, Lib.toList_data] at hs
   exact dash_ne _ hs
  ·exact hs
 have e5 : slashB (Z2 a0 a2) = slashB a2 := by
  rw [hsl]
  have hs : slashB (if (ruleB a0).2.2.1 = true then smallS a2 else a2) = false := by
   split
   ·rw [slash_small]; exact hsl
   ·exact hsl
  unfold Z2
  split
  ·exact slash_dash _ hs
  ·exact hs
 have e6 : dirtyAll (Y1 a0 a1) (Z2 a0 a2) a3 a5 l' = dirtyAll a1 a2 a3 a5 l' := by
  have y : dirtyB (Y1 a0 a1) = false := by
   unfold Y1
   split
   ·rw [dirty_small]; exact d1
   ·exact d1
  have hs : dirtyB (if (ruleB a0).2.2.1 = true then smallS a2 else a2) = false := by
   split
   ·rw [dirty_small]; exact d2
   ·exact d2
  have z : dirtyB (Z2 a0 a2) = false := by
   unfold Z2
   split
   ·exact dirty_dash _ hs
   ·exact hs
  unfold dirtyAll
  simp only [List.any_cons, List.any_nil, y, z, d1, d2]
 unfold chkV
 rw [e1, e2, e3, e4, e5, e6]
theorem can_can {a0 a1 a2 a3 a5 : ByteArray} {l : List S64} (h : chkV a0 a1 a2 a3 l a5 = 0) (l' : List S64) : canV a0 (Y1 a0 a1) (Z2 a0 a2) a3 l' a5 = canV a0 a1 a2 a3 l' a5 := by
 unfold canV
 rw [chk_can h l', Y1_idem, Z2_idem]
end Go.Proofs.YtmnfjbmhlabdaaaDoor.Pr
namespace Go.Proofs.YtmnfjbmhlabdaaaDoor.Pr
open Go.RowKit Go.Proofs.YtmnfjbmhlabdaaaDoorW.PrintWords Go.Proofs.YtmnfjbmhlabdaaaDoorW.PrintLast Go.Proofs.YtmnfjbmhlabdaaaDoorW.PrintMore
set_option linter.unusedSimpArgs false
set_option linter.unusedVariables false
theorem ql_adj (l : List S64) (d : Nat) : ∀ i, i + d = l.length → qlE l d i = 0 → ∀ k (hk : k < l.length) (h0 : 0 < k), i ≤ k → Op.bytesLess (l[k - 1]'(by omega)).f0.toList l[k].f0.toList = true := by
 induction d with
 | zero => intro i hi _ k hk _ hik; omega
 | succ d ih =>
  intro i hi hq k hk h0 hik
  simp only [qlE] at hq
  by_cases h1 : qnB (rd_T64 l i).f0 = true
  ·rw [if_pos h1] at hq
   by_cases h2 : (rd_T64 l i).f1.toList = []
   ·rw [if_pos h2] at hq; exact absurd hq (by decide)
   ·rw [if_neg h2] at hq
    by_cases h3 : 0 < i
    ·rw [if_pos h3] at hq
     by_cases h4 : Op.bytesLess (rd_T64 l ((i - 1 : Nat) : Int)).f0.toList (rd_T64 l i).f0.toList = true
     ·rw [if_pos h4] at hq
      rcases Nat.lt_or_ge i k with h5 | h5
      ·exact ih (i + 1) (by omega) hq k hk h0 h5
      ·obtain rfl : i = k := by omega
       rw [rd64_get l _ (by omega), rd64_get l _ (by omega)] at h4
       exact h4
     ·rw [if_neg h4] at hq; exact absurd hq (by decide)
    ·rw [if_neg h3] at hq
     exact ih (i + 1) (by omega) hq k hk h0 (by omega)
  ·rw [if_neg h1] at hq; exact absurd hq (by decide)
theorem ql_srt {l : List S64} (h : qlE l l.length 0 = 0) : Srt l := by
 have adj := ql_adj l l.length 0 (by omega) h
 unfold Srt
 rw [List.pairwise_iff_getElem]
 intro i j hi hj hij
 obtain ⟨d, rfl⟩ : ∃ d, j = i + 1 + d := ⟨j - i - 1, by omega⟩
 induction d with
 | zero => exact adj (i + 1) hj (by omega) (by omega)
 | succ d ih => exact bless_trans (ih (by omega) (by omega)) (adj (i + 1 + (d + 1)) hj (by omega) (by omega))
section
variable (nm vl : ByteArray)
def setR : List S64 → List S64
 | [] => if vl.toList = [] then [] else [⟨nm, vl⟩]
 | q :: r => if Op.bytesLess q.f0.toList nm.toList = true then q :: setR r else if q.f0.toList = nm.toList then (if vl.toList = [] then r else ⟨q.f0, vl⟩ :: r) else if vl.toList = [] then q :: r else ⟨nm, vl⟩ :: q :: r
def goR : Bool → List S64 → List S64
 | put, [] => if put = true then [] else [⟨nm, vl⟩]
 | put, q :: r =>
  if put = false ∧ ¬ Op.bytesLess q.f0.toList nm.toList = true then ⟨nm, vl⟩ :: (if q.f0.toList ≠ nm.toList then q :: goR true r else goR true r)
  else if q.f0.toList ≠ nm.toList then q :: goR put r else goR put r
theorem setQ_eq : ∀ l : List S64, setQ nm vl l = setR nm vl l
 | [] => by
  unfold setQ setR hasQ
  rw [if_neg (by rw [decide_eq_true_iff]; rintro ⟨h, _⟩; exact absurd h (Nat.not_lt_zero _))]
  have h0 : lowQ nm ([] : List S64) = 0 := rfl
  rw [h0]
  rfl
 | q :: r => by
  by_cases h1 : Op.bytesLess q.f0.toList nm.toList = true
  ·have ih := setQ_eq r
   have e1 : lowQ nm (q :: r) = lowQ nm r + 1 := by rw [lowQ_cons, if_pos h1]
   have e2 : hasQ nm (q :: r) = hasQ nm r := by
    unfold hasQ
    rw [e1, rd64_cons, List.length_cons]
    exact decide_eq_decide.2 (by rw [Nat.add_lt_add_iff_right])
   unfold setR
   rw [if_pos h1, ← ih]
   unfold setQ
   rw [e1, e2, rd64_cons]
   split
   ·split <;> rfl
   ·split <;> rfl
  ·have e1 : lowQ nm (q :: r) = 0 := by rw [lowQ_cons, if_neg h1]
   have e3 : rd_T64 (q :: r) ((0 : Nat) : Int) = q := rfl
   unfold setR setQ hasQ
   rw [e1, e3, if_neg h1]
   by_cases h2 : q.f0.toList = nm.toList
   ·rw [if_pos h2, if_pos (by rw [decide_eq_true_iff]; exact ⟨Nat.succ_pos _, h2⟩)]
    split <;> rfl
   ·rw [if_neg h2, if_neg (by rw [decide_eq_true_iff]; exact fun h => h2 h.2)]
    split <;> rfl
theorem goR_past (put : Bool) (hp : put = true) : ∀ r : List S64, (∀ q ∈ r, q.f0.toList ≠ nm.toList) → goR nm vl put r = r
 | [], _ => by subst hp; rfl
 | q :: r, h => by
  have ih := goR_past put hp r (fun x hx => h x (List.mem_cons_of_mem _ hx))
  subst hp
  unfold goR
  rw [if_neg (by rintro ⟨h, _⟩; exact absurd h (by decide)), if_pos (h q List.mem_cons_self), ih]
theorem goR_eq : ∀ l : List S64, Srt l → goR nm vl (decide (vl.toList = [])) l = setR nm vl l
 | [], _ => by
  unfold goR setR
  by_cases h : vl.toList = []
  ·simp only [h, decide_true, if_true]
  ·simp only [h, decide_false, if_false, Bool.false_eq_true]
 | q :: r, hs => by
  obtain ⟨hq, hr⟩ := List.pairwise_cons.1 hs
  have ih := goR_eq r hr
  unfold goR setR
  by_cases h1 : Op.bytesLess q.f0.toList nm.toList = true
  ·have hne : q.f0.toList ≠ nm.toList := fun e => by rw [e, bless_irrefl] at h1; exact absurd h1 (by decide)
   rw [if_neg (fun h => h.2 h1), if_pos hne, if_pos h1, ih]
  ·rw [if_neg h1]
   have past : ∀ x ∈ r, x.f0.toList ≠ nm.toList := by
    intro x hx e
    have h3 := hq x hx
    rw [e] at h3
    exact h1 h3
   by_cases h2 : q.f0.toList = nm.toList
   ·rw [if_pos h2]
    by_cases hv : vl.toList = []
    ·rw [if_pos hv, if_neg (by rw [decide_eq_true hv]; rintro ⟨h, _⟩; exact absurd h (by decide)), if_neg (fun h => h h2)]
     exact goR_past nm vl _ (decide_eq_true hv) r past
    ·rw [if_neg hv, if_pos ⟨decide_eq_false hv, h1⟩, if_neg (fun h => h h2), goR_past nm vl true rfl r past]
     have e : q.f0 = nm := ba_ext (by rw [← Lib.toList_data, ← Lib.toList_data]; exact h2)
     rw [e]
   ·rw [if_neg h2]
    by_cases hv : vl.toList = []
    ·rw [if_pos hv, if_neg (by rw [decide_eq_true hv]; rintro ⟨h, _⟩; exact absurd h (by decide)), if_pos h2, goR_past nm vl _ (decide_eq_true hv) r past]
    ·rw [if_neg hv, if_pos ⟨decide_eq_false hv, h1⟩, if_pos h2, goR_past nm vl true rfl r past]
end
end Go.Proofs.YtmnfjbmhlabdaaaDoor.Pr
namespace Go.Proofs.YtmnfjbmhlabdaaaDoor.Pr
open Go.RowKit Go.Proofs.YtmnfjbmhlabdaaaDoorW.PrintWords Go.Proofs.YtmnfjbmhlabdaaaDoorW.PrintLast Go.Proofs.YtmnfjbmhlabdaaaDoorW.PrintMore
set_option linter.unusedSimpArgs false
set_option linter.unusedVariables false
def errV (e : Int) : ByteArray × ByteArray × ByteArray × ByteArray × List S64 × ByteArray × Int := (⟨#[]⟩, ⟨#[]⟩, ⟨#[]⟩, ⟨#[]⟩, [], ⟨#[]⟩, e)
def withV (a0 a1 a2 a3 : ByteArray) (l : List S64) (a5 v : ByteArray) : ByteArray × ByteArray × ByteArray × ByteArray × List S64 × ByteArray × Int :=
 if chkV a0 a1 a2 a3 l a5 = 0 then canV a0 a1 a2 v l a5 else errV (chkV a0 a1 a2 a3 l a5)
def qualV (a0 a1 a2 a3 : ByteArray) (l : List S64) (a5 nm vl : ByteArray) : ByteArray × ByteArray × ByteArray × ByteArray × List S64 × ByteArray × Int :=
 if chkV a0 a1 a2 a3 l a5 = 0 then canV a0 a1 a2 a3 (setQ nm vl l) a5 else errV (chkV a0 a1 a2 a3 l a5)
section
variable (a0 a1 a2 a3 : ByteArray) (l : List S64) (a5 : ByteArray) (hl : l.length ≤ 9223372036854775806)
include hl
theorem ref_With_gets (v : ByteArray) : Gets (fun k => r2_With.f k a0 a1 a2 a3 l a5 v) (withV a0 a1 a2 a3 l a5 v) := by
 unfold r2_With.f withV
 refine Gets.bind (ref_Check_gets a0 a1 a2 a3 l hl a5) ?_
 by_cases h : chkV a0 a1 a2 a3 l a5 = 0
 ·simp only [h, if_true]
  exact ref_Canonical_gets a0 a1 a2 v l a5 hl
 ·simp only [h, if_false]
  exact Gets.pure _
theorem purl_With_gets (v : ByteArray) : Gets (fun k => purl_With.f k a0 a1 a2 a3 l a5 v) (withV a0 a1 a2 a3 l a5 v) := by
 unfold purl_With.f withV
 refine Gets.bind (purl_Check_gets a0 a1 a2 a3 l hl a5) ?_
 by_cases h : chkV a0 a1 a2 a3 l a5 = 0
 ·simp only [h, if_true]
  exact purl_Canonical_gets a0 a1 a2 v l a5 hl
 ·simp only [h, if_false]
  exact Gets.pure _
omit hl in
theorem setQ_len (nm vl : ByteArray) : (setQ nm vl l).length ≤ l.length + 1 := by
 have h1 := lowQ_le nm l
 unfold setQ
 by_cases h2 : hasQ nm l = true
 ·rw [if_pos h2]
  by_cases h3 : vl.toList = []
  ·rw [if_pos h3, List.length_append, List.length_take, List.length_drop]; omega
  ·rw [if_neg h3, List.length_set]; omega
 ·rw [if_neg h2]
  by_cases h3 : vl.toList = []
  ·rw [if_pos h3]; omega
  ·rw [if_neg h3, List.length_append, List.length_take, List.length_cons, List.length_drop]; omega
theorem purl_Qualified_gets (nm vl : ByteArray) : Gets (fun k => purl_Qualified.f k a0 a1 a2 a3 l a5 nm vl) (qualV a0 a1 a2 a3 l a5 nm vl) := by
 unfold purl_Qualified.f qualV
 refine Gets.bind (purl_Check_gets a0 a1 a2 a3 l hl a5) ?_
 by_cases h : chkV a0 a1 a2 a3 l a5 = 0
 ·obtain ⟨h0, hov⟩ := chkV_zero h
  obtain ⟨s1, s2, s3, s5, sl, sq⟩ := over_false hov
  have hq := (chkV_parts h).2.2.2.2.2.2.1
  have hs : Srt l ∧ l.length ≤ 1000 := ⟨ql_srt hq, by omega⟩
  simp only [h, if_true]
  rw [purl_can a0 a1 a2 a3 l a5 s1 s2 sl, can_eq]
  simp only [Option.bind_some, hs, and_self, if_true]
  refine Gets.congr (purl_Canonical_gets a0 (Y1 a0 a1) (Z2 a0 a2) a3 (setQ nm vl l) a5 (by have := setQ_len l nm vl; omega)) ?_
  exact can_can h _
 ·simp only [h, if_false]
  exact Gets.pure _
omit hl in
omit hl in
theorem ref_q_loop (hb : l.length ≤ 1000) (nm vl : ByteArray) (d : Nat) : ∀ (i : Nat) (put : Bool) (xs : List S64), i + d = l.length → xs.length ≤ i * 2 → Gets (fun k => r2_Qualified.l0 k nm vl put l (l.length : Int) (i : Int) a0 a1 a2 a3 xs a5) (canV a0 a1 a2 a3 (xs ++ goR nm vl put (l.drop i)) a5) := by
 induction d with
 | zero =>
  intro i put xs hi hx
  refine Gets.succ ?_
  simp only [r2_Qualified.l0, show ((i : Int) < (l.length : Int)) = False from eq_false (by omega), if_false, show (xs.length < 4398046511104) = True from eq_true (by omega), if_true]
  rw [List.drop_of_length_le (by omega)]
  cases put with
  | true =>
   have e : goR nm vl true [] = [] := rfl
   rw [e, List.append_nil]
   simp only [if_true]
   have h := ref_Canonical_gets a0 a1 a2 a3 xs a5 (by omega)
   generalize canV a0 a1 a2 a3 xs a5 = r at h ⊢
   exact Gets.bind h (Gets.pure _)
  | false =>
   have e : goR nm vl false [] = [⟨nm, vl⟩] := rfl
   rw [e]
   simp only [Bool.false_eq_true, if_false]
   have hx2 : (xs ++ [(⟨nm, vl⟩ : S64)]).length ≤ 9223372036854775806 := by rw [List.length_append, List.length_singleton]; omega
   have h := ref_Canonical_gets a0 a1 a2 a3 (xs ++ [⟨nm, vl⟩]) a5 hx2
   generalize canV a0 a1 a2 a3 (xs ++ [⟨nm, vl⟩]) a5 = r at h ⊢
   exact Gets.bind h (Gets.pure _)
 | succ d ih =>
  intro i put xs hi hx
  have hdr := rd64_drop l i (by omega)
  have hw := wrap_succ i (by omega)
  have hq : rd_T64 l (i : Int) = ⟨(rd_T64 l (i : Int)).f0, (rd_T64 l (i : Int)).f1⟩ := rfl
  refine Gets.succ ?_
  simp only [r2_Qualified.l0, show ((i : Int) < (l.length : Int)) = True from eq_true (by omega), show ((0 : Int) ≤ (i : Int)) = True from eq_true (by omega), if_true]
  rw [hdr]
  have go : ∀ (b : Bool), (b = true ↔ put = false ∧ ¬ Op.bytesLess (rd_T64 l (i : Int)).f0.toList nm.toList = true) → Gets (fun k => r2_Qualified.j1 k nm vl put l (l.length : Int) (i : Int) b a0 a1 a2 a3 xs a5 (rd_T64 l (i : Int)).f0 (rd_T64 l (i : Int)).f1) (canV a0 a1 a2 a3 (xs ++ goR nm vl put (rd_T64 l (i : Int) :: l.drop (i + 1))) a5) := by
   intro b hb2
   refine Gets.succ ?_
   simp only [r2_Qualified.j1, hw]
   unfold goR
   cases b with
   | true =>
    have hc := hb2.mp rfl
    rw [if_pos hc]
    simp only [if_true, show (xs.length < 4398046511104) = True from eq_true (by omega), Option.bind_some, show ((xs ++ [(⟨nm, vl⟩ : S64)]).length < 4398046511104) = True from eq_true (by rw [List.length_append, List.length_singleton]; omega)]
    by_cases he : (rd_T64 l (i : Int)).f0.toList = nm.toList
    ·simp only [he, if_true, ne_eq, not_true_eq_false, if_false]
     refine Gets.congr (ih (i + 1) true (xs ++ [⟨nm, vl⟩]) (by omega) (by rw [List.length_append, List.length_singleton]; omega)) ?_
     rw [List.append_assoc]; rfl
    ·simp only [he, if_false, ne_eq, not_false_eq_true, if_true]
     refine Gets.congr (ih (i + 1) true (xs ++ [⟨nm, vl⟩] ++ [rd_T64 l (i : Int)]) (by omega) (by rw [List.length_append, List.length_append, List.length_singleton, List.length_singleton]; omega)) ?_
     rw [List.append_assoc, List.append_assoc]; rfl
   | false =>
    have hc : ¬ (put = false ∧ ¬ Op.bytesLess (rd_T64 l (i : Int)).f0.toList nm.toList = true) := fun hh => absurd (hb2.mpr hh) (by decide)
    rw [if_neg hc]
    simp only [Bool.false_eq_true, if_false]
    by_cases he : (rd_T64 l (i : Int)).f0.toList = nm.toList
    ·simp only [he, if_true, ne_eq, not_true_eq_false, if_false]
     exact ih (i + 1) put xs (by omega) (by omega)
    ·simp only [he, if_false, ne_eq, not_false_eq_true, if_true, show (xs.length < 4398046511104) = True from eq_true (by omega)]
     refine Gets.congr (ih (i + 1) put (xs ++ [rd_T64 l (i : Int)]) (by omega) (by rw [List.length_append, List.length_singleton]; omega)) ?_
     rw [List.append_assoc]; rfl
  cases put with
  | true =>
   simp only [if_true]
   exact go false ⟨fun h => absurd h (by decide), fun h => absurd h.1 (by decide)⟩
  | false =>
   simp only [Bool.false_eq_true, if_false]
   exact go _ (by simp)
theorem ref_Qualified_gets (nm vl : ByteArray) : Gets (fun k => r2_Qualified.f k a0 a1 a2 a3 l a5 nm vl) (qualV a0 a1 a2 a3 l a5 nm vl) := by
 unfold r2_Qualified.f qualV
 refine Gets.bind (ref_Check_gets a0 a1 a2 a3 l hl a5) ?_
 by_cases h : chkV a0 a1 a2 a3 l a5 = 0
 ·obtain ⟨h0, hov⟩ := chkV_zero h
  obtain ⟨s1, s2, s3, s5, sl, sq⟩ := over_false hov
  have hq := (chkV_parts h).2.2.2.2.2.2.1
  simp only [h, if_true]
  have hg := ref_q_loop a0 a1 a2 a3 l a5 (by omega) nm vl l.length 0 (decide (vl.toList = [])) [] (by omega) (by simp)
  rw [List.drop_zero, List.nil_append, goR_eq nm vl l (ql_srt hq), ← setQ_eq] at hg
  have e : (vl.toList == ([] : List UInt8)) = decide (vl.toList = []) := by cases vl.toList <;> rfl
  rw [e]
  exact hg
 ·simp only [h, if_false]
  exact Gets.pure _
omit hl in
theorem err_len (e : Int) : (errV e).2.2.2.2.1.length ≤ 9223372036854775806 := by simp [errV]
theorem changes_true (v nm vl : ByteArray) : Gets (fun k => l2_PurlChangesMatchSpec.f k a0 a1 a2 a3 l a5 v nm vl) true := by
 unfold l2_PurlChangesMatchSpec.f
 refine Gets.bind (ref_With_gets a0 a1 a2 a3 l a5 hl v) (Gets.bind (purl_With_gets a0 a1 a2 a3 l a5 hl v) (Gets.bind (ref_Qualified_gets a0 a1 a2 a3 l a5 hl nm vl) (Gets.bind (purl_Qualified_gets a0 a1 a2 a3 l a5 hl nm vl) ?_)))
 have w1 : (withV a0 a1 a2 a3 l a5 v).2.2.2.2.1.length ≤ 9223372036854775806 := by
  unfold withV
  split
  ·exact canV_len a0 a1 a2 v l a5 hl
  ·exact err_len _
 have w2 : (qualV a0 a1 a2 a3 l a5 nm vl).2.2.2.2.1.length ≤ 9223372036854775806 := by
  unfold qualV
  split
  ·rename_i h
   obtain ⟨h0, hov⟩ := chkV_zero h
   obtain ⟨s1, s2, s3, s5, sl, sq⟩ := over_false hov
   exact canV_len a0 a1 a2 a3 (setQ nm vl l) a5 (by have := setQ_len l nm vl; omega)
  ·exact err_len _
 refine Gets.bind (same_gets _ _ _ _ _ w1 _) ?_
 simp only [if_true]
 refine Gets.bind (same_gets _ _ _ _ _ w2 _) ?_
 simp only [if_true]
 exact Gets.bind told_gets (Gets.pure _)
end
theorem changes_row (a0 a1 a2 a3 : ByteArray) (l : List S64) (a5 v nm vl : ByteArray) (_h0 : a0.size ≤ 140737488351232) (_h1 : a1.size ≤ 140737488351232) (_h2 : a2.size ≤ 140737488351232) (_h3 : a3.size ≤ 140737488351232) (hl : l.length * Tryd.prog.bytesOf 64 ≤ 140737488351232) (_h5 : a5.size ≤ 140737488351232) (_h6 : v.size ≤ 140737488351232) (_h7 : nm.size ≤ 140737488351232) (_h8 : vl.size ≤ 140737488351232) : Gets (fun k => l2_PurlChangesMatchSpec.f k a0 a1 a2 a3 l a5 v nm vl) true :=
 changes_true a0 a1 a2 a3 l a5 (by
  rw [show Tryd.prog.bytesOf 64 = 32 by kernel_rfl] at hl
  omega) v nm vl
end Go.Proofs.YtmnfjbmhlabdaaaDoor.Pr
