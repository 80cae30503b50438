/- The plain law of kinds: what the law computes is true, from some number of rounds on. Conditions: none. -/
import Derived.Test.YtmnfjbmhlabdaaaDoorCGt
import Derived.Test.YtmnfjbmhlabdaaaDoorCEk
import Derived.Test.YtmnfjbmhlabdaaaDoorCEq
import Derived.Test.YtmnfjbmhlabdaaaDoorCPk1
import Derived.Test.YtmnfjbmhlabdaaaDoorCPk8
import Derived.Test.YtmnfjbmhlabdaaaDoorCPrx0
import Derived.Test.YtmnfjbmhlabdaaaDoorCPrx11
import Derived.Test.YtmnfjbmhlabdaaaDoorCPrx3
import Derived.Test.YtmnfjbmhlabdaaaDoorCEu
import Derived.Test.YtmnfjbmhlabdaaaDoorCEz
import Derived.Test.YtmnfjbmhlabdaaaDoorCEd
import Derived.Test.YtmnfjbmhlabdaaaDoorCEe
import Derived.Test.YtmnfjbmhlabdaaaDoorCEn
import Derived.Test.YtmnfjbmhlabdaaaDoorCEp
import Derived.Test.YtmnfjbmhlabdaaaDoorCPm8
import Derived.Test.YtmnfjbmhlabdaaaDoorCPrx9
import Derived.Lib.FJoinFns
import Derived.Test.YtmnfjbmhlabdaaaDoorCPm11
import Derived.Test.YtmnfjbmhlabdaaaDoorCPrx10
namespace Go.Proofs.YtmnfjbmhlabdaaaDoor.Pr
open RowKit YtmnfjbmhlabdaaaDoorW.PrintWords YtmnfjbmhlabdaaaDoorW.PrintLast YtmnfjbmhlabdaaaDoorW.PrintMore
set_option linter.unusedSimpArgs false
set_option linter.unusedVariables false
theorem yz : type_of% @Bool.false_eq_true := @Bool.false_eq_true
theorem yx : type_of% @Option.bind_some := @Option.bind_some
set_option maxRecDepth 100000 in
theorem told_at : l2_told.f 60 = some true := by kernel_rfl
theorem told_gets : Gets (fun k => l2_told.f k) true := Gets.mono l2_told.mono 60 told_at
theorem rp_step (k : Nat) (a0 : ByteArray) (i : Nat) (b : List UInt8) (hi : i < 5) (hb : (rdOf ByteArray.empty kindsB (i : Int)).toList = b) : r2_place.l0 (k + 1) a0 kindsB 5 (i : Int) = if b = a0.toList then some (i : Int) else r2_place.l0 k a0 kindsB 5 ((i + 1 : Nat) : Int) := by
 simp only [r2_place.l0]
 rw [if_pos (show (i : Int) < 5 by omega), if_pos (show (0 : Int) ≤ (i : Int) by omega), if_pos (show (i : Int) < ((kindsB.length : Nat) : Int) from (show (i : Int) < 5 by omega)), hb, wrap_succ i (by omega)]
theorem ref_place (a0 : ByteArray) : Gets (fun k => r2_place.f k a0) (placeI a0.toList) := by
 refine ⟨6, fun k hk => ?_⟩
 obtain ⟨k, rfl⟩ : ∃ m, k = m + 6 := ⟨k - 6, by omega⟩
 have h0 := rp_step (k + 5) a0 0 [100, 111, 116, 116, 101, 100] (by omega) (by kernel_rfl)
 have h1 := rp_step (k + 4) a0 1 [114, 101, 118, 105, 115, 101, 100] (by omega) (by kernel_rfl)
 have h2 := rp_step (k + 3) a0 2 [115, 116, 97, 103, 101, 100] (by omega) (by kernel_rfl)
 have h3 := rp_step (k + 2) a0 3 [113, 117, 97, 108, 105, 102, 105, 101, 100] (by omega) (by kernel_rfl)
 have h4 := rp_step (k + 1) a0 4 [112, 108, 97, 105, 110] (by omega) (by kernel_rfl)
 show r2_place.l0 (k + 5 + 1) a0 kindsB 5 ((0 : Nat) : Int) = _
 generalize a0.toList = a at *
 unfold placeI placeN
 by_cases g0 : a = [100, 111, 116, 116, 101, 100]
 ·rw [h0, if_pos g0.symm, if_pos g0]; rfl
 rw [h0, if_neg (fun e => g0 e.symm), if_neg g0, h1]
 by_cases g1 : a = [114, 101, 118, 105, 115, 101, 100]
 ·rw [if_pos g1.symm, if_pos g1]; rfl
 rw [if_neg (fun e => g1 e.symm), if_neg g1, h2]
 by_cases g2 : a = [115, 116, 97, 103, 101, 100]
 ·rw [if_pos g2.symm, if_pos g2]; rfl
 rw [if_neg (fun e => g2 e.symm), if_neg g2, h3]
 by_cases g3 : a = [113, 117, 97, 108, 105, 102, 105, 101, 100]
 ·rw [if_pos g3.symm, if_pos g3]; rfl
 rw [if_neg (fun e => g3 e.symm), if_neg g3, h4]
 by_cases g4 : a = [112, 108, 97, 105, 110]
 ·rw [if_pos g4.symm, if_pos g4]; rfl
 rw [if_neg (fun e => g4 e.symm), if_neg g4]
 rfl
def ruleB (a0 : ByteArray) : ByteArray × Int × Bool × Bool × Int × Int := if placeN a0.toList < 5 then ((ruleAt (placeN a0.toList)).1, (ruleAt (placeN a0.toList)).2.1, (ruleAt (placeN a0.toList)).2.2.1, (ruleAt (placeN a0.toList)).2.2.2.1, (ruleAt (placeN a0.toList)).2.2.2.2, 0) else (⟨#[]⟩, 0, false, false, 0, 7)
theorem purl_Rule_eq (a0 : ByteArray) : purl_Rule.f a0 = some (ruleB a0) := by
 unfold purl_Rule.f ruleB
 split <;> rfl
theorem ref_Rule (a0 : ByteArray) : Gets (fun k => r2_Rule.f k a0) (ruleB a0) := by
 unfold r2_Rule.f
 refine Gets.bind (ref_place a0) (Gets.of ?_)
 unfold ruleB placeI
 have h := placeN_le a0.toList
 generalize placeN a0.toList = p at *
 obtain rfl | rfl | rfl | rfl | rfl | rfl : p = 0 ∨ p = 1 ∨ p = 2 ∨ p = 3 ∨ p = 4 ∨ p = 5 := by omega
 all_goals rfl
def over (s : ByteArray) : Bool := decide ((s.size : Int) > 200)
def qover (q : S64) : Bool := over q.f0 || over q.f1
theorem rdOf_drop (l : List ByteArray) (i : Nat) (h : i < l.length) : l.drop i = rdOf ByteArray.empty l (i : Int) :: l.drop (i + 1) := by
 rw [List.drop_eq_getElem_cons h]
 unfold rdOf
 rw [Int.toNat_natCast, List.getD_eq_getElem?_getD, List.getElem?_eq_getElem h]
 rfl
theorem rd64_drop (l : List S64) (i : Nat) (h : i < l.length) : l.drop i = rd_T64 l (i : Int) :: l.drop (i + 1) := by
 rw [List.drop_eq_getElem_cons h]
 unfold rd_T64
 rw [Int.toNat_natCast, List.getD_eq_getElem?_getD, List.getElem?_eq_getElem h]
 rfl
theorem rd64_mem (l : List S64) (i : Nat) (h : i < l.length) : rd_T64 l (i : Int) ∈ l := by
 have := rd64_drop l i h
 exact List.mem_of_mem_drop (i := i) (by rw [this]; exact List.mem_cons_self)
theorem ref_long_loop (xs : List ByteArray) (hx : xs.length ≤ 9223372036854775806) (d : Nat) : ∀ i, i + d = xs.length → Gets (fun k => r2_long.l0 k xs (xs.length : Int) (i : Int)) ((xs.drop i).any over) := by
 induction d with
 | zero =>
  intro i hi
  refine Gets.succ ?_
  simp only [r2_long.l0, show ((i : Int) < (xs.length : Int)) = False from eq_false (by omega), if_false]
  rw [List.drop_of_length_le (by omega)]
  exact Gets.pure _
 | succ d ih =>
  intro i hi
  have hih := ih (i + 1) (by omega)
  refine Gets.succ ?_
  simp only [r2_long.l0, show ((i : Int) < (xs.length : Int)) = True from eq_true (by omega), show ((0 : Int) ≤ (i : Int)) = True from eq_true (by omega), if_true]
  rw [rdOf_drop xs i (by omega), List.any_cons, wrap_succ i (by omega)]
  generalize rdOf ByteArray.empty xs (i : Int) = x
  by_cases h : (x.size : Int) > 200
  ·simp only [h, if_true]
   exact Gets.congr (Gets.pure true) (by rw [show over x = true from decide_eq_true h]; rfl)
  ·simp only [h, if_false]
   exact Gets.congr hih (by rw [show over x = false from decide_eq_false h]; rfl)
theorem ref_long (xs : List ByteArray) (hx : xs.length ≤ 9223372036854775806) : Gets (fun k => r2_long.f k xs) (xs.any over) := by
 have h := ref_long_loop xs hx xs.length 0 (by omega)
 rw [List.drop_zero] at h
 exact h
theorem purl_long_l1 (l : List S64) (hl : l.length ≤ 9223372036854775806) (a b c e f : ByteArray) (d : Nat) : ∀ i, i + d = l.length → Gets (fun k => purl_long.l1 k l (l.length : Int) (i : Int) a b c e l f) ((l.drop i).any qover || decide ((l.length : Int) > 10)) := by
 induction d with
 | zero =>
  intro i hi
  refine Gets.succ ?_
  simp only [purl_long.l1, show ((i : Int) < (l.length : Int)) = False from eq_false (by omega), if_false]
  rw [List.drop_of_length_le (by omega)]
  exact Gets.pure _
 | succ d ih =>
  intro i hi
  have hih := ih (i + 1) (by omega)
  refine Gets.succ ?_
  simp only [purl_long.l1, show ((i : Int) < (l.length : Int)) = True from eq_true (by omega), show ((0 : Int) ≤ (i : Int)) = True from eq_true (by omega), if_true]
  rw [rd64_drop l i (by omega), List.any_cons, wrap_succ i (by omega)]
  generalize rd_T64 l (i : Int) = x
  by_cases h : (x.f0.size : Int) > 200
  ·simp only [h, if_true]
   exact Gets.congr (Gets.pure true) (by unfold qover; rw [show over x.f0 = true from decide_eq_true h]; rfl)
  ·by_cases h2 : (x.f1.size : Int) > 200
   ·simp only [h, h2, if_true, if_false]
    exact Gets.congr (Gets.pure true) (by rw [show qover x = true from by unfold qover; rw [show over x.f1 = true from decide_eq_true h2, Bool.or_true]]; rfl)
   ·simp only [h, h2, if_false]
    exact Gets.congr hih (by rw [show qover x = false from by unfold qover; rw [show over x.f0 = false from decide_eq_false h, show over x.f1 = false from decide_eq_false h2]; rfl]; rfl)
theorem purl_long_l0 (xs : List ByteArray) (hx : xs.length ≤ 9223372036854775806) (l : List S64) (hl : l.length ≤ 9223372036854775806) (a b c e f : ByteArray) (d : Nat) : ∀ i, i + d = xs.length → Gets (fun k => purl_long.l0 k xs (xs.length : Int) (i : Int) a b c e l f) ((xs.drop i).any over || (l.any qover || decide ((l.length : Int) > 10))) := by
 induction d with
 | zero =>
  intro i hi
  refine Gets.succ ?_
  simp only [purl_long.l0, show ((i : Int) < (xs.length : Int)) = False from eq_false (by omega), if_false]
  rw [List.drop_of_length_le (by omega)]
  have h := purl_long_l1 l hl a b c e f l.length 0 (by omega)
  rw [List.drop_zero] at h
  exact h
 | succ d ih =>
  intro i hi
  have hih := ih (i + 1) (by omega)
  refine Gets.succ ?_
  simp only [purl_long.l0, show ((i : Int) < (xs.length : Int)) = True from eq_true (by omega), show ((0 : Int) ≤ (i : Int)) = True from eq_true (by omega), if_true]
  rw [rdOf_drop xs i (by omega), List.any_cons, wrap_succ i (by omega)]
  generalize rdOf ByteArray.empty xs (i : Int) = x
  by_cases h : (x.size : Int) > 200
  ·simp only [h, if_true]
   exact Gets.congr (Gets.pure true) (by rw [show over x = true from decide_eq_true h]; rfl)
  ·simp only [h, if_false]
   exact Gets.congr hih (by rw [show over x = false from decide_eq_false h]; rfl)
def overB (a1 a2 a3 : ByteArray) (l : List S64) (a5 : ByteArray) : Bool := [a1, a2, a3, a5].any over || (l.any qover || decide ((l.length : Int) > 10))
theorem purl_long_gets (a0 a1 a2 a3 : ByteArray) (l : List S64) (hl : l.length ≤ 9223372036854775806) (a5 : ByteArray) : Gets (fun k => purl_long.f k a0 a1 a2 a3 l a5) (overB a1 a2 a3 l a5) := by
 have h := purl_long_l0 [a1, a2, a3, a5] (by simp) l hl a0 a1 a2 a3 a5 4 0 rfl
 rw [List.drop_zero] at h
 exact h
theorem ckL0_gets (l : List S64) (d : Nat) : ∀ i, i + d = l.length → Gets (fun k => ckL0 k l d i) ((l.drop i).any qover) := by
 induction d with
 | zero =>
  intro i hi
  rw [List.drop_of_length_le (by omega)]
  exact Gets.pure _
 | succ d ih =>
  intro i hi
  have hih := ih (i + 1) (by omega)
  simp only [ckL0]
  rw [rd64_drop l i (by omega), List.any_cons]
  generalize rd_T64 l (i : Int) = x
  refine Gets.bind (ref_long [x.f0, x.f1] (by simp)) ?_
  have e : [x.f0, x.f1].any over = qover x := by unfold qover; simp
  rw [e]
  by_cases h : qover x = true
  ·simp only [h, if_true]
   exact Gets.pure _
  ·rw [Bool.not_eq_true] at h
   simp only [h, yz, if_false, Bool.false_or]
   exact hih
def badB (dots : Bool) (x : ByteArray) : Bool := (x.toList == []) || (dots && ((x.toList == [46]) || (x.toList == [46, 46])))
theorem fault_loop (a l : List ByteArray) (hl : l.length ≤ 9223372036854775806) (dots : Bool) (d : Nat) : ∀ i, i + d = l.length → Gets (fun k => purl_pathFault.l0 k a dots l (l.length : Int) (i : Int)) ((l.drop i).any (badB dots) || decide ((a.length : Int) > 10)) := by
 induction d with
 | zero =>
  intro i hi
  refine Gets.succ ?_
  simp only [purl_pathFault.l0, show ((i : Int) < (l.length : Int)) = False from eq_false (by omega), if_false]
  rw [List.drop_of_length_le (by omega)]
  exact Gets.pure _
 | succ d ih =>
  intro i hi
  have hih := ih (i + 1) (by omega)
  refine Gets.succ ?_
  simp only [purl_pathFault.l0, show ((i : Int) < (l.length : Int)) = True from eq_true (by omega), show ((0 : Int) ≤ (i : Int)) = True from eq_true (by omega), if_true]
  rw [rdOf_drop l i (by omega), List.any_cons, wrap_succ i (by omega)]
  generalize rdOf ByteArray.empty l (i : Int) = x
  have yes : badB dots x = true → Gets (fun _ => some true) (badB dots x || (l.drop (i + 1)).any (badB dots) || decide ((a.length : Int) > 10)) := fun h => Gets.congr (Gets.pure true) (by rw [h]; rfl)
  have no : badB dots x = false → Gets (fun k => purl_pathFault.l0 k a dots l (l.length : Int) ((i + 1 : Nat) : Int)) (badB dots x || (l.drop (i + 1)).any (badB dots) || decide ((a.length : Int) > 10)) := fun h => Gets.congr hih (by rw [h]; rfl)
  by_cases h0 : x.toList = []
  ·simp only [h0, if_true]
   exact yes (by unfold badB; rw [beq_iff_eq.mpr h0]; rfl)
  ·have b0 : (x.toList == []) = false := beq_eq_false_iff_ne.mpr h0
   cases dots with
   | false =>
    simp only [h0, if_false, yz]
    exact no (by unfold badB; rw [b0]; rfl)
   | true =>
    by_cases h1 : x.toList = [46]
    ·simp only [h0, h1, if_true, if_false]
     have := yes (by unfold badB; rw [b0, beq_iff_eq.mpr h1]; rfl)
     simpa [h1] using this
    ·by_cases h2 : x.toList = [46, 46]
     ·simp only [h0, h1, h2, if_true, if_false]
      have := yes (by unfold badB; rw [b0, beq_eq_false_iff_ne.mpr h1, beq_iff_eq.mpr h2]; rfl)
      simpa [h2] using this
     ·simp only [h0, h1, h2, if_true, if_false]
      exact no (by unfold badB; rw [b0, beq_eq_false_iff_ne.mpr h1, beq_eq_false_iff_ne.mpr h2]; rfl)
def faultB (l : List ByteArray) (dots : Bool) : Bool := l.any (badB dots) || decide ((l.length : Int) > 10)
theorem purl_fault (l : List ByteArray) (hl : l.length ≤ 9223372036854775806) (dots : Bool) : Gets (fun k => purl_pathFault.f k l dots) (faultB l dots) := by
 have h := fault_loop l l hl dots l.length 0 (by omega)
 rw [List.drop_zero] at h
 exact h
theorem bad_same (k : Nat) : ∀ a d b n i, r2_badSegments.l0 k d a b n i = purl_pathFault.l0 k a d b n i := by
 induction k with
 | zero => intro a d b n i; simp only [r2_badSegments.l0, purl_pathFault.l0]
 | succ k ih => intro a d b n i; simp only [r2_badSegments.l0, purl_pathFault.l0, ih]
def segL (s : ByteArray) : List ByteArray := if s.toList = [] then [] else Lib.splitB ⟨#[47]⟩ 0 (Lib.countB s ⟨#[47]⟩) s
theorem purl_segs (s : ByteArray) (h : s.size < 4294967281) : purl_segments.f s = some (segL s) := by
 unfold purl_segments.f segL
 split
 ·rfl
 ·unfold lib_Split.f
  rw [if_pos ⟨h, rfl⟩]
  rfl
theorem ref_segs (s : ByteArray) (h : s.size < 4294967281) : r2_segments.f s = some (segL s) := by
 unfold r2_segments.f segL
 split
 ·rfl
 ·unfold lib_Split.f
  rw [if_pos ⟨h, rfl⟩]
  rfl
theorem segL_len (s : ByteArray) : (segL s).length ≤ s.size + 1 := by
 unfold segL
 split
 ·simp
 ·rw [split_len]
  have := Lib.countB_le ⟨#[47]⟩ (Nat.le_refl 1) s.size s (Nat.le_refl _)
  omega
theorem ref_bad (s : ByteArray) (h : s.size < 4294967281) (dots : Bool) : Gets (fun k => r2_badSegments.f k s dots) (faultB (segL s) dots) := by
 unfold r2_badSegments.f
 rw [ref_segs s h]
 simp only [yx, bad_same]
 exact purl_fault (segL s) (by have := segL_len s; omega) dots
def nbP (c : Int) (first : Bool) : Prop := (97 ≤ c ∧ c ≤ 122) ∨ (first = false ∧ ((48 ≤ c ∧ c ≤ 57) ∨ c = 46 ∨ c = 45 ∨ c = 95))
instance (c : Int) (first : Bool) : Decidable (nbP c first) := by unfold nbP; exact inferInstance
theorem nameByte_is (c : Int) (first : Bool) : purl_nameByte.f c first = some (decide (nbP c first)) := by
 unfold purl_nameByte.f
 by_cases h : nbP c first
 ·rw [decide_eq_true h]
  unfold nbP at h
  cases first <;> simp only [yz, if_false, if_true, false_and, true_and, or_false, reduceCtorEq, beq_iff_eq] at h ⊢
  all_goals (repeat' split)
  all_goals first | rfl | (exfalso; omega) | (congr 1; rw [beq_iff_eq]; omega)
 ·rw [decide_eq_false h]
  unfold nbP at h
  cases first <;> simp only [yz, if_false, if_true, false_and, true_and, or_false, reduceCtorEq, beq_iff_eq] at h ⊢
  all_goals (repeat' split)
  all_goals first | rfl | (exfalso; omega) | (congr 1; rw [beq_eq_false_iff_ne]; omega)
def qnFrom (s : ByteArray) (i : Nat) : Bool := decide (∀ j, j < s.size → i ≤ j → nbP (bt s (j : Int)) (decide (j = 0)))
def qnB (s : ByteArray) : Bool := qnFrom s 0 && (s.toList != [])
theorem qnFrom_end (s : ByteArray) : qnFrom s s.size = true := by
 unfold qnFrom; exact decide_eq_true (fun j h1 h2 => by omega)
theorem qnFrom_yes {s : ByteArray} {i : Nat} (h : nbP (bt s (i : Int)) (decide (i = 0))) : qnFrom s i = qnFrom s (i + 1) := by
 unfold qnFrom
 exact decide_eq_decide.2 ⟨fun g j h1 h2 => g j h1 (by omega), fun g j h1 h2 => by
  rcases Nat.lt_or_ge i j with h3 | h3
  ·exact g j h1 h3
  ·obtain rfl : i = j := by omega
   exact h⟩
theorem qnFrom_no {s : ByteArray} {i : Nat} (hi : i < s.size) (h : ¬ nbP (bt s (i : Int)) (decide (i = 0))) : qnFrom s i = false := by
 unfold qnFrom
 exact decide_eq_false (fun g => h (g i hi (Nat.le_refl _)))
theorem zero_beq (i : Nat) : (((i : Int)) == 0) = decide (i = 0) := by
 by_cases h : i = 0
 ·subst h; rfl
 ·rw [decide_eq_false h, beq_eq_false_iff_ne]; omega
theorem purl_qn_loop (s : ByteArray) (hs : s.size ≤ 140737488351232) (d : Nat) : ∀ i, i + d = s.size → Gets (fun k => purl_qualifierName.l0 k s (s.size : Int) (i : Int)) (qnFrom s i && (s.toList != [])) := by
 induction d with
 | zero =>
  intro i hi
  obtain rfl : i = s.size := by omega
  refine Gets.succ ?_
  simp only [purl_qualifierName.l0, show ((s.size : Int) < (s.size : Int)) = False from eq_false (by omega), if_false]
  rw [qnFrom_end]
  exact Gets.pure _
 | succ d ih =>
  intro i hi
  have hih := ih (i + 1) (by omega)
  refine Gets.succ ?_
  simp only [purl_qualifierName.l0, show ((i : Int) < (s.size : Int)) = True from eq_true (by omega), show ((0 : Int) ≤ (i : Int)) = True from eq_true (by omega), if_true, nameByte_is, yx, decide_eq_true_eq, zero_beq]
  rw [wrap_succ i (by omega)]
  by_cases h : nbP (bt s (i : Int)) (decide (i = 0))
  ·simp only [h, if_true]
   rw [qnFrom_yes h]
   exact hih
  ·simp only [h, if_false]
   rw [qnFrom_no (by omega) h]
   exact Gets.pure _
theorem purl_qn (s : ByteArray) (hs : s.size ≤ 140737488351232) : Gets (fun k => purl_qualifierName.f k s) (qnB s) := purl_qn_loop s hs s.size 0 (by omega)
theorem ref_qn_loop (s : ByteArray) (hs : s.size ≤ 140737488351232) (d : Nat) : ∀ i, i + d = s.size → Gets (fun k => r2_isQualifier.l0 k s (i : Int)) (qnFrom s i && (s.toList != [])) := by
 induction d with
 | zero =>
  intro i hi
  obtain rfl : i = s.size := by omega
  refine Gets.succ ?_
  simp only [r2_isQualifier.l0, show ((s.size : Int) < (s.size : Int)) = False from eq_false (by omega), if_false]
  rw [qnFrom_end]
  exact Gets.pure _
 | succ d ih =>
  intro i hi
  obtain ⟨K, hK⟩ := ih (i + 1) (by omega)
  refine ⟨K + 1, fun k hk => ?_⟩
  obtain ⟨k, rfl⟩ : ∃ m, k = m + 1 := ⟨k - 1, by omega⟩
  have hih : r2_isQualifier.l0 k s ((i + 1 : Nat) : Int) = some (qnFrom s (i + 1) && (s.toList != [])) := hK k (by omega)
  simp only [r2_isQualifier.l0]
  rw [if_pos (by omega), if_pos (by omega), wrap_succ i (by omega)]
  by_cases h : nbP (bt s (i : Int)) (decide (i = 0))
  ·rw [qnFrom_yes h, ← hih]
   generalize r2_isQualifier.l0 k s ((i + 1 : Nat) : Int) = A
   unfold nbP at h
   rw [decide_eq_false_iff_not] at h
   generalize bt s (i : Int) = c at *
   repeat' split
   all_goals first | rfl | (exfalso; omega)
  ·rw [qnFrom_no (by omega) h]
   generalize r2_isQualifier.l0 k s ((i + 1 : Nat) : Int) = A
   unfold nbP at h
   rw [decide_eq_false_iff_not] at h
   generalize bt s (i : Int) = c at *
   repeat' split
   all_goals first | rfl | (exfalso; omega)
theorem ref_qn (s : ByteArray) (hs : s.size ≤ 140737488351232) : Gets (fun k => r2_isQualifier.f k s) (qnB s) := ref_qn_loop s hs s.size 0 (by omega)
def qlE (l : List S64) : Nat → Nat → Int
 | 0, _ => 0
 | d + 1, i => if qnB (rd_T64 l i).f0 = true then (if (rd_T64 l i).f1.toList = [] then 2 else if 0 < i then (if Op.bytesLess (rd_T64 l ((i - 1 : Nat) : Int)).f0.toList (rd_T64 l i).f0.toList = true then qlE l d (i + 1) else 10) else qlE l d (i + 1)) else 8
theorem ckL1_gets (l : List S64) (hs : ∀ x ∈ l, x.f0.size ≤ 140737488351232) (d : Nat) : ∀ i, i + d = l.length → Gets (fun k => ckL1 k l d i) (qlE l d i) := by
 induction d with
 | zero => intro i hi; exact Gets.pure _
 | succ d ih =>
  intro i hi
  have hih := ih (i + 1) (by omega)
  have hm := hs _ (rd64_mem l i (by omega))
  simp only [ckL1, qlE]
  refine Gets.bind (ref_qn _ hm) ?_
  by_cases h1 : qnB (rd_T64 l i).f0 = true
  ·simp only [h1, if_true]
   by_cases h2 : (rd_T64 l i).f1.toList = []
   ·simp only [h2, if_true]; exact Gets.pure _
   ·simp only [h2, if_false]
    by_cases h3 : 0 < i
    ·simp only [h3, if_true]
     by_cases h4 : Op.bytesLess (rd_T64 l ((i - 1 : Nat) : Int)).f0.toList (rd_T64 l i).f0.toList = true
     ·simp only [h4, if_true]; exact hih
     ·simp only [h4, if_false]; exact Gets.pure _
    ·simp only [h3, if_false]; exact hih
  ·simp only [h1, if_false]; exact Gets.pure _
theorem purl_ql_loop (l : List S64) (hl : l.length ≤ 9223372036854775806) (hs : ∀ x ∈ l, x.f0.size ≤ 140737488351232) (d : Nat) : ∀ i, i + d = l.length → Gets (fun k => purl_checkQualifiers.l0 k l l (l.length : Int) (i : Int)) (qlE l d i) := by
 induction d with
 | zero =>
  intro i hi
  refine Gets.succ ?_
  simp only [purl_checkQualifiers.l0, show ((i : Int) < (l.length : Int)) = False from eq_false (by omega), if_false]
  exact Gets.pure _
 | succ d ih =>
  intro i hi
  have hih := ih (i + 1) (by omega)
  have hm := hs _ (rd64_mem l i (by omega))
  refine Gets.succ ?_
  simp only [purl_checkQualifiers.l0, qlE, show ((i : Int) < (l.length : Int)) = True from eq_true (by omega), show ((0 : Int) ≤ (i : Int)) = True from eq_true (by omega), if_true]
  rw [wrap_succ i (by omega)]
  refine Gets.bind (purl_qn _ hm) ?_
  by_cases h1 : qnB (rd_T64 l i).f0 = true
  ·simp only [h1, if_true]
   by_cases h2 : (rd_T64 l i).f1.toList = []
   ·simp only [h2, if_true]; exact Gets.pure _
   ·simp only [h2, if_false]
    by_cases h3 : 0 < i
    ·simp only [h3, if_true, show ((i : Int) > 0) = True from eq_true (by omega), show wrap64 ((i : Int) - 1) = ((i - 1 : Nat) : Int) from by unfold wrap64; omega, show ((0 : Int) ≤ ((i - 1 : Nat) : Int)) = True from eq_true (by omega), show (((i - 1 : Nat) : Int) < (l.length : Int)) = True from eq_true (by omega)]
     by_cases h4 : Op.bytesLess (rd_T64 l ((i - 1 : Nat) : Int)).f0.toList (rd_T64 l i).f0.toList = true
     ·simp only [h4, if_true]; exact hih
     ·simp only [h4, if_false]; exact Gets.pure _
    ·simp only [h3, if_false, show ((i : Int) > 0) = False from eq_false (by omega)]; exact hih
  ·simp only [h1, if_false]; exact Gets.pure _
theorem purl_ql (l : List S64) (hl : l.length ≤ 9223372036854775806) (hs : ∀ x ∈ l, x.f0.size ≤ 140737488351232) : Gets (fun k => purl_checkQualifiers.f k l) (qlE l l.length 0) := purl_ql_loop l hl hs l.length 0 (by omega)
def dirtyP (c : Int) : Prop := c < 32 ∨ c = 127
instance (c : Int) : Decidable (dirtyP c) := by unfold dirtyP; exact inferInstance
def dirtyFrom (s : ByteArray) (i : Nat) : Bool := decide (∃ j, j < s.size ∧ i ≤ j ∧ dirtyP (bt s (j : Int)))
def dirtyB (s : ByteArray) : Bool := dirtyFrom s 0
theorem dirty_end (s : ByteArray) : dirtyFrom s s.size = false := by
 unfold dirtyFrom; exact decide_eq_false (fun ⟨j, h1, h2, _⟩ => by omega)
theorem dirty_yes {s : ByteArray} {i : Nat} (hi : i < s.size) (h : dirtyP (bt s (i : Int))) : dirtyFrom s i = true := by
 unfold dirtyFrom; exact decide_eq_true ⟨i, hi, Nat.le_refl _, h⟩
theorem dirty_no {s : ByteArray} {i : Nat} (h : ¬ dirtyP (bt s (i : Int))) : dirtyFrom s i = dirtyFrom s (i + 1) := by
 unfold dirtyFrom
 refine decide_eq_decide.2 ⟨fun ⟨j, h1, h2, h3⟩ => ⟨j, h1, ?_, h3⟩, fun ⟨j, h1, h2, h3⟩ => ⟨j, h1, by omega, h3⟩⟩
 rcases Nat.lt_or_ge i j with h4 | h4
 ·exact h4
 ·obtain rfl : i = j := by omega
  exact absurd h3 h
theorem control_loop (s : ByteArray) (hs : s.size ≤ 140737488351232) (d : Nat) : ∀ i, i + d = s.size → Gets (fun k => purl_control.l0 k s (s.size : Int) (i : Int)) (dirtyFrom s i) := by
 induction d with
 | zero =>
  intro i hi
  obtain rfl : i = s.size := by omega
  refine Gets.succ ?_
  simp only [purl_control.l0, show ((s.size : Int) < (s.size : Int)) = False from eq_false (by omega), if_false]
  rw [dirty_end]
  exact Gets.pure _
 | succ d ih =>
  intro i hi
  have hih := ih (i + 1) (by omega)
  refine Gets.succ ?_
  simp only [purl_control.l0, show ((i : Int) < (s.size : Int)) = True from eq_true (by omega), show ((0 : Int) ≤ (i : Int)) = True from eq_true (by omega), if_true]
  rw [wrap_succ i (by omega)]
  by_cases h1 : bt s (i : Int) < 32
  ·simp only [h1, if_true]
   rw [dirty_yes (by omega) (Or.inl h1)]
   exact Gets.pure _
  ·by_cases h2 : bt s (i : Int) = 127
   ·simp only [h1, if_false]
    rw [dirty_yes (by omega) (Or.inr h2)]
    simp only [h2, if_true]
    exact Gets.pure _
   ·simp only [h1, h2, if_false]
    rw [dirty_no (fun h => h.elim h1 h2)]
    exact hih
theorem purl_control_gets (s : ByteArray) (hs : s.size ≤ 140737488351232) : Gets (fun k => purl_control.f k s) (dirtyB s) := control_loop s hs s.size 0 (by omega)
theorem clean_loop (s : ByteArray) (hs : s.size ≤ 140737488351232) (d : Nat) : ∀ i, i + d = s.size → Gets (fun k => r2_clean.l0 k s (i : Int)) (!dirtyFrom s i) := by
 induction d with
 | zero =>
  intro i hi
  obtain rfl : i = s.size := by omega
  refine Gets.succ ?_
  simp only [r2_clean.l0, show ((s.size : Int) < (s.size : Int)) = False from eq_false (by omega), if_false]
  rw [dirty_end]
  exact Gets.pure _
 | succ d ih =>
  intro i hi
  have hih := ih (i + 1) (by omega)
  refine Gets.succ ?_
  simp only [r2_clean.l0, show ((i : Int) < (s.size : Int)) = True from eq_true (by omega), show ((0 : Int) ≤ (i : Int)) = True from eq_true (by omega), if_true]
  rw [wrap_succ i (by omega)]
  by_cases h1 : bt s (i : Int) < 32
  ·simp only [h1, if_true]
   rw [dirty_yes (by omega) (Or.inl h1)]
   exact Gets.pure _
  ·by_cases h2 : bt s (i : Int) = 127
   ·simp only [h1, if_false]
    rw [dirty_yes (by omega) (Or.inr h2)]
    simp only [h2, if_true]
    exact Gets.pure _
   ·simp only [h1, h2, if_false]
    rw [dirty_no (fun h => h.elim h1 h2)]
    exact hih
theorem ref_clean (s : ByteArray) (hs : s.size ≤ 140737488351232) : Gets (fun k => r2_clean.f k s) (!dirtyB s) := clean_loop s hs s.size 0 (by omega)
def spaceB (a1 : ByteArray) (sp : Int) : Bool := decide ((a1.toList = [] ∧ sp = 3) ∨ (a1.toList ≠ [] ∧ sp = 1))
def slashB (a2 : ByteArray) : Bool := decide (0 ≤ Lib.indexByte a2.data.toList 47)
def dirtyAll (a1 a2 a3 a5 : ByteArray) (l : List S64) : Bool := [a1, a2, a3, a5].any dirtyB || l.any (fun q => dirtyB q.f1)
def chkV (a0 a1 a2 a3 : ByteArray) (l : List S64) (a5 : ByteArray) : Int :=
 if (ruleB a0).2.2.2.2.2 = 0 then
  if overB a1 a2 a3 l a5 = true then 3
  else if (spaceB a1 (ruleB a0).2.1 || faultB (segL a1) false) = true then 2
  else if (decide (a2.toList = []) || slashB a2) = true then 8
  else if qlE l l.length 0 = 0 then
   if faultB (segL a5) true = true then 2
   else if dirtyAll a1 a2 a3 a5 l = true then 8 else 0
  else qlE l l.length 0
 else (ruleB a0).2.2.2.2.2
theorem over_false {a1 a2 a3 a5 : ByteArray} {l : List S64} (h : overB a1 a2 a3 l a5 = false) : a1.size ≤ 200 ∧ a2.size ≤ 200 ∧ a3.size ≤ 200 ∧ a5.size ≤ 200 ∧ l.length ≤ 10 ∧ ∀ q ∈ l, q.f0.size ≤ 200 ∧ q.f1.size ≤ 200 := by
 unfold overB at h
 simp only [List.any_cons, List.any_nil, Bool.or_false, Bool.or_eq_false_iff, over, decide_eq_false_iff_not, List.any_eq_false] at h
 obtain ⟨⟨h1, h2, h3, h5⟩, hq, hl⟩ := h
 refine ⟨by omega, by omega, by omega, by omega, by omega, fun q hm => ?_⟩
 have := hq q hm
 unfold qover over at this
 simp only [Bool.or_eq_true, decide_eq_true_eq, not_or] at this
 omega
theorem pk1_gets (l : List S64) (hs : ∀ x ∈ l, x.f1.size ≤ 140737488351232) (d : Nat) : ∀ i, i + d = l.length → Gets (fun k => pk1 k l d i) ((l.drop i).any fun q => dirtyB q.f1) := by
 induction d with
 | zero =>
  intro i hi
  rw [List.drop_of_length_le (by omega)]
  exact Gets.pure _
 | succ d ih =>
  intro i hi
  have hih := ih (i + 1) (by omega)
  have hm := hs _ (rd64_mem l i (by omega))
  rw [rd64_drop l i (by omega)]
  simp only [pk1, List.any_cons]
  refine Gets.bind (purl_control_gets _ hm) ?_
  by_cases h : dirtyB (rd_T64 l i).f1 = true
  ·simp only [h, if_true, Bool.true_or]; exact Gets.pure _
  ·rw [Bool.not_eq_true] at h
   simp only [h, yz, if_false, Bool.false_or]; exact hih
theorem pk0_gets (xs : List ByteArray) (hs : ∀ x ∈ xs, x.size ≤ 140737488351232) (d : Nat) : ∀ i, i + d = xs.length → Gets (fun k => pk0 k xs d i) ((xs.drop i).any dirtyB) := by
 induction d with
 | zero =>
  intro i hi
  rw [List.drop_of_length_le (by omega)]
  exact Gets.pure _
 | succ d ih =>
  intro i hi
  have hih := ih (i + 1) (by omega)
  have hd := rdOf_drop xs i (by omega)
  have hm := hs (rdOf ByteArray.empty xs (i : Int)) (List.mem_of_mem_drop (i := i) (by rw [hd]; exact List.mem_cons_self))
  rw [hd]
  simp only [pk0, List.any_cons]
  refine Gets.bind (purl_control_gets _ hm) ?_
  by_cases h : dirtyB (rdOf ByteArray.empty xs (i : Int)) = true
  ·simp only [h, if_true, Bool.true_or]; exact Gets.pure _
  ·rw [Bool.not_eq_true] at h
   simp only [h, yz, if_false, Bool.false_or]; exact hih
def chkW (a1 a2 a3 : ByteArray) (l : List S64) (a5 : ByteArray) : Int :=
 if faultB (segL a1) false = true then 2
 else if (decide (a2.toList = []) || slashB a2) = true then 8
 else if qlE l l.length 0 = 0 then
  if faultB (segL a5) true = true then 2
  else if dirtyAll a1 a2 a3 a5 l = true then 8 else 0
 else qlE l l.length 0
theorem pk2_gets (a1 a2 a3 : ByteArray) (l : List S64) (a5 : ByteArray) (h : overB a1 a2 a3 l a5 = false) : Gets (fun k => pk2 k a1 a2 a3 l a5) (chkW a1 a2 a3 l a5) := by
 obtain ⟨h1, h2, h3, h5, hl, hq⟩ := over_false h
 unfold pk2 chkW
 refine Gets.bind (Gets.of (purl_segs a1 (by omega))) (Gets.bind (purl_fault _ (by have := segL_len a1; omega) false) ?_)
 by_cases g1 : faultB (segL a1) false = true
 ·simp only [g1, if_true]; exact Gets.pure _
 ·simp only [g1, if_false, yz]
  unfold pk3
  by_cases g2 : a2.toList = []
  ·simp only [g2, if_true, decide_true, Bool.true_or]; exact Gets.pure _
  ·simp only [g2, if_false, decide_false, Bool.false_or]
   refine Gets.bind (a := Lib.indexByte a2.data.toList 47) (Gets.of (show lib_IndexByte.f a2 47 = some (Lib.indexByte a2.data.toList 47) from rfl)) ?_
   by_cases g3 : 0 ≤ Lib.indexByte a2.data.toList 47
   ·have e : slashB a2 = true := decide_eq_true g3
    simp only [e, if_true, g3]; exact Gets.pure _
   ·have e : slashB a2 = false := decide_eq_false g3
    simp only [e, yz, if_false, g3]
    unfold pk4
    refine Gets.bind (purl_ql l (by omega) (fun x hx => by have := hq x hx; omega)) ?_
    by_cases g4 : qlE l l.length 0 = 0
    ·simp only [g4, if_true]
     unfold pk5
     refine Gets.bind (Gets.of (purl_segs a5 (by omega))) (Gets.bind (purl_fault _ (by have := segL_len a5; omega) true) ?_)
     by_cases g5 : faultB (segL a5) true = true
     ·simp only [g5, if_true]; exact Gets.pure _
     ·simp only [g5, if_false, yz]
      have hall : ∀ x ∈ [a1, a2, a3, a5], x.size ≤ 140737488351232 := by
       intro x hx
       simp only [List.mem_cons, List.mem_nil_iff, or_false] at hx
       rcases hx with rfl | rfl | rfl | rfl <;> omega
      refine Gets.bind (pk0_gets [a1, a2, a3, a5] hall 4 0 rfl) ?_
      rw [List.drop_zero]
      have e1 : dirtyAll a1 a2 a3 a5 l = ([a1, a2, a3, a5].any dirtyB || l.any fun q => dirtyB q.f1) := rfl
      rw [e1]
      by_cases g6 : [a1, a2, a3, a5].any dirtyB = true
      ·simp only [g6, if_true, Bool.true_or]; exact Gets.pure _
      ·rw [Bool.not_eq_true] at g6
       simp only [g6, yz, if_false, Bool.false_or]
       refine Gets.bind (pk1_gets l (fun x hx => by have := hq x hx; omega) l.length 0 (by omega)) ?_
       rw [List.drop_zero]
       by_cases g7 : (l.any fun q => dirtyB q.f1) = true
       ·simp only [g7, if_true]; exact Gets.pure _
       ·rw [Bool.not_eq_true] at g7
        simp only [g7, yz, if_false]; exact Gets.pure _
    ·simp only [g4, if_false]; exact Gets.pure _
theorem chkV_over {a0 a1 a2 a3 a5 : ByteArray} {l : List S64} (h0 : (ruleB a0).2.2.2.2.2 = 0) (h : overB a1 a2 a3 l a5 = false) : chkV a0 a1 a2 a3 l a5 = if spaceB a1 (ruleB a0).2.1 = true then 2 else chkW a1 a2 a3 l a5 := by
 unfold chkV chkW
 rw [if_pos h0, if_neg (by rw [h]; decide)]
 by_cases g : spaceB a1 (ruleB a0).2.1 = true
 ·simp only [g, Bool.true_or, if_true]
 ·rw [Bool.not_eq_true] at g
  simp only [g, Bool.false_or, yz, if_false]
theorem purl_Check_gets (a0 a1 a2 a3 : ByteArray) (l : List S64) (hl : l.length ≤ 9223372036854775806) (a5 : ByteArray) : Gets (fun k => purl_Check.f k a0 a1 a2 a3 l a5) (chkV a0 a1 a2 a3 l a5) := by
 unfold purl_Check.f
 rw [purl_Rule_eq]
 simp only [yx]
 by_cases h0 : (ruleB a0).2.2.2.2.2 = 0
 ·simp only [h0, if_true]
  refine Gets.bind (purl_long_gets a0 a1 a2 a3 l hl a5) ?_
  cases h : overB a1 a2 a3 l a5 with
  | true => simp only [if_true]; exact Gets.congr (Gets.pure 3) (by unfold chkV; rw [if_pos h0, if_pos h])
  | false =>
   simp only [yz, if_false]
   rw [chkV_over h0 h]
   by_cases g : (a1.toList = [] ∧ (ruleB a0).2.1 = 3) ∨ (a1.toList ≠ [] ∧ (ruleB a0).2.1 = 1)
   ·have e : spaceB a1 (ruleB a0).2.1 = true := decide_eq_true g
    rw [if_pos e]
    simp only [g, if_true]
    exact Gets.pure _
   ·have e : spaceB a1 (ruleB a0).2.1 = false := decide_eq_false g
    rw [if_neg (by rw [e]; decide)]
    simp only [g, if_false]
    exact pk2_gets a1 a2 a3 l a5 h
 ·simp only [h0, if_false]
  exact Gets.congr (Gets.pure _) (by unfold chkV; rw [if_neg h0])
theorem ckL2_gets (l : List S64) (hs : ∀ x ∈ l, x.f1.size ≤ 140737488351232) (d : Nat) : ∀ i c, i + d = l.length → Gets (fun k => ckL2 k l d i c) (c && !((l.drop i).any (fun q => dirtyB q.f1))) := by
 induction d with
 | zero =>
  intro i c hi
  rw [List.drop_of_length_le (by omega)]
  exact Gets.congr (Gets.pure c) (by cases c <;> rfl)
 | succ d ih =>
  intro i c hi
  have hm := hs _ (rd64_mem l i (by omega))
  rw [rd64_drop l i (by omega)]
  simp only [ckL2, List.any_cons]
  cases c with
  | true =>
   simp only [if_true]
   refine Gets.bind (ref_clean _ hm) (Gets.congr (ih (i + 1) _ (by omega)) ?_)
   rw [Bool.not_or, Bool.true_and]
  | false =>
   simp only [yz, if_false]
   exact Gets.bind (Gets.pure false) (ih (i + 1) false (by omega))
theorem ck1_gets (a1 a2 a3 : ByteArray) (l : List S64) (a5 : ByteArray) (h : overB a1 a2 a3 l a5 = false) (sp : Int) : Gets (fun k => ck1 k a1 a2 a3 l a5 sp) (if spaceB a1 sp = true then 2 else chkW a1 a2 a3 l a5) := by
 obtain ⟨h1, h2, h3, h5, hl, hq⟩ := over_false h
 unfold ck1
 by_cases g0 : (a1.toList = [] ∧ sp = 3) ∨ (a1.toList ≠ [] ∧ sp = 1)
 ·have e : spaceB a1 sp = true := decide_eq_true g0
  rw [if_pos e]
  simp only [g0, if_true, yx]
  exact Gets.pure _
 ·have e : spaceB a1 sp = false := decide_eq_false g0
  rw [if_neg (by rw [e]; decide)]
  simp only [g0, if_false]
  unfold chkW
  refine Gets.bind (ref_bad a1 (by omega) false) ?_
  by_cases g1 : faultB (segL a1) false = true
  ·simp only [g1, if_true]; exact Gets.pure _
  ·simp only [g1, if_false, yz]
   unfold ck2
   have hn : (if a2.toList = [] then some true else lib_Contains.f a2 ⟨#[47]⟩) = some (decide (a2.toList = []) || slashB a2) := by
    by_cases g2 : a2.toList = []
    ·rw [if_pos g2, decide_eq_true g2]; rfl
    ·rw [if_neg g2, decide_eq_false g2]; rfl
   rw [hn]
   simp only [yx]
   by_cases g3 : (decide (a2.toList = []) || slashB a2) = true
   ·simp only [g3, if_true]; exact Gets.pure _
   ·simp only [g3, if_false, yz]
    unfold ck3
    refine Gets.bind (ckL1_gets l (fun x hx => by have := hq x hx; omega) l.length 0 (by omega)) ?_
    by_cases g4 : qlE l l.length 0 = 0
    ·simp only [g4, if_true]
     unfold ck4
     refine Gets.bind (ref_bad a5 (by omega) true) ?_
     by_cases g5 : faultB (segL a5) true = true
     ·simp only [g5, if_true]; exact Gets.pure _
     ·simp only [g5, if_false, yz]
      have step : ∀ (c : Bool) (a : ByteArray), a.size ≤ 200 → Gets (fun k => if c = true then r2_clean.f k a else some false) (c && !dirtyB a) := fun c a ha => by
       cases c with
       | true => simp only [if_true, Bool.true_and]; exact ref_clean a (by omega)
       | false => simp only [yz, if_false, Bool.false_and]; exact Gets.pure _
      refine Gets.bind (ref_clean a1 (by omega)) (Gets.bind (step _ a2 h2) (Gets.bind (step _ a3 h3) (Gets.bind (step _ a5 h5) ?_)))
      unfold ck5
      refine Gets.bind (ckL2_gets l (fun x hx => by have := hq x hx; omega) l.length 0 _ (by omega)) ?_
      rw [List.drop_zero]
      have e2 : (!dirtyB a1 && !dirtyB a2 && !dirtyB a3 && !dirtyB a5 && !l.any fun q => dirtyB q.f1) = !dirtyAll a1 a2 a3 a5 l := by
       unfold dirtyAll
       simp only [List.any_cons, List.any_nil, Bool.or_false, Bool.not_or, Bool.and_assoc]
      rw [e2]
      cases dirtyAll a1 a2 a3 a5 l with
      | true => simp only [Bool.not_true, yz, if_false, if_true]; exact Gets.pure _
      | false => simp only [Bool.not_false, yz, if_false, if_true]; exact Gets.pure _
    ·simp only [g4, if_false]; exact Gets.pure _
theorem ref_Check_gets (a0 a1 a2 a3 : ByteArray) (l : List S64) (hl : l.length ≤ 9223372036854775806) (a5 : ByteArray) : Gets (fun k => r2_Check.f k a0 a1 a2 a3 l a5) (chkV a0 a1 a2 a3 l a5) := by
 unfold r2_Check.f
 refine Gets.bind (ref_Rule a0) ?_
 by_cases h0 : (ruleB a0).2.2.2.2.2 = 0
 ·simp only [h0, if_true]
  refine Gets.bind (ref_long [a1, a2, a3, a5] (by simp)) ?_
  cases h : overB a1 a2 a3 l a5 with
  | true =>
   have hv : chkV a0 a1 a2 a3 l a5 = 3 := by unfold chkV; rw [if_pos h0, if_pos h]
   rw [hv]
   by_cases g1 : [a1, a2, a3, a5].any over = true
   ·simp only [g1, if_true]; exact Gets.pure _
   ·simp only [g1, if_false, yz]
    by_cases g2 : (l.length : Int) > 10
    ·simp only [g2, if_true]; exact Gets.pure _
    ·simp only [g2, if_false]
     unfold ck0
     refine Gets.bind (ckL0_gets l l.length 0 (by omega)) ?_
     rw [List.drop_zero]
     have g3 : l.any qover = true := by
      unfold overB at h
      rw [Bool.not_eq_true] at g1
      rw [g1, decide_eq_false g2, Bool.false_or, Bool.or_false] at h
      exact h
     simp only [g3, if_true]; exact Gets.pure _
  | false =>
   rw [chkV_over h0 h]
   have hh := h
   unfold overB at hh
   rw [Bool.or_eq_false_iff, Bool.or_eq_false_iff, decide_eq_false_iff_not] at hh
   simp only [hh.1, hh.2.2, yz, if_false]
   unfold ck0
   refine Gets.bind (ckL0_gets l l.length 0 (by omega)) ?_
   rw [List.drop_zero]
   simp only [hh.2.1, yz, if_false]
   exact ck1_gets a1 a2 a3 l a5 h _
 ·simp only [h0, if_false]
  exact Gets.congr (Gets.pure _) (by unfold chkV; rw [if_neg h0])
theorem bt_byte (s : ByteArray) (k : Nat) (hk : k < s.size) : bt s (k : Int) = ((s.data.toList[k]'(by simpa using hk)).toNat : Int) := by
 simp [bt, hk]; rfl
def intsOf (l : List UInt8) : List Int := l.map fun c => (c.toNat : Int)
theorem nums_of (l : List UInt8) : strOfNums (intsOf l) = ⟨l.toArray⟩ := by
 unfold strOfNums intsOf
 rw [List.map_map]
 congr 2
 exact (List.map_congr_left (fun c _ => by simp)).trans (List.map_id l)
theorem dash_is (c : UInt8) : isDashC c = true ↔ ((c.toNat : Int) = 45 ∨ (c.toNat : Int) = 95 ∨ (c.toNat : Int) = 46) := by
 unfold isDashC
 simp only [Bool.or_eq_true, beq_iff_eq, or_assoc]
 omega
theorem dash_go_len (l : List UInt8) : ∀ p, (dashGo p l).length ≤ l.length := by
 induction l with
 | nil => intro p; simp [dashGo]
 | cons c r ih =>
  intro p
  simp only [dashGo]
  split
  ·split
   ·have := ih true; simp only [List.length_cons]; omega
   ·have := ih true; simp only [List.length_cons]; omega
  ·have := ih false; simp only [List.length_cons]; omega
theorem dash_loop (s : ByteArray) (hs : s.size ≤ 100000) (d : Nat) : ∀ (i : Nat) (xs : List UInt8) (p : Bool), i + d = s.size → xs.length ≤ i → (p = true ↔ ∃ ys, xs = ys ++ [45]) → Gets (fun k => r2_dashed.l0 k s (intsOf xs) (i : Int)) ⟨(xs ++ dashGo p (s.data.toList.drop i)).toArray⟩ := by
 have hl : s.data.toList.length = s.size := by simp
 induction d with
 | zero =>
  intro i xs p hi hx hp
  refine Gets.succ ?_
  simp only [r2_dashed.l0, show ((i : Int) < (s.size : Int)) = False from eq_false (by omega), if_false]
  rw [List.drop_of_length_le (by omega), nums_of]
  simp only [dashGo, List.append_nil]
  exact Gets.pure _
 | succ d ih =>
  intro i xs p hi hx hp
  have hb := bt_byte s i (by omega)
  rw [List.drop_eq_getElem_cons (show i < s.data.toList.length by omega)]
  generalize hc : (s.data.toList[i]'(by omega)) = c at *
  have hlen : (intsOf xs).length = xs.length := by simp [intsOf]
  have snoc : ∀ b : UInt8, intsOf xs ++ [(b.toNat : Int)] = intsOf (xs ++ [b]) := fun b => by simp [intsOf]
  refine Gets.succ ?_
  simp only [r2_dashed.l0, show ((i : Int) < (s.size : Int)) = True from eq_true (by omega), show ((0 : Int) ≤ (i : Int)) = True from eq_true (by omega), if_true]
  rw [hb]
  have hw := wrap_succ i (by omega)
  by_cases hd : isDashC c = true
  ·have main : Gets (fun k => r2_dashed.j1 k s (intsOf xs) (i : Int) (c.toNat : Int) true) ⟨(xs ++ dashGo p (c :: s.data.toList.drop (i + 1))).toArray⟩ := by
    refine Gets.succ ?_
    simp only [r2_dashed.j1, if_true, hw, hlen]
    have app : p = false → Gets (fun k => r2_dashed.l0 k s (intsOf xs ++ [45]) ((i + 1 : Nat) : Int)) ⟨(xs ++ dashGo p (c :: s.data.toList.drop (i + 1))).toArray⟩ := fun hpf => by
     have h := ih (i + 1) (xs ++ [45]) true (by omega) (by simp; omega) ⟨fun _ => ⟨xs, rfl⟩, fun _ => rfl⟩
     have e : intsOf (xs ++ [45]) = intsOf xs ++ [45] := by simp [intsOf]
     rw [e] at h
     refine Gets.congr h ?_
     subst hpf
     simp only [dashGo, hd, if_true, yz, if_false, List.append_assoc, List.singleton_append]
    by_cases h0 : (xs.length : Int) = 0
    ·have hx0 : xs = [] := List.length_eq_zero_iff.mp (by omega)
     have hpf : p = false := by
      rcases Bool.eq_false_or_eq_true p with h | h
      ·obtain ⟨ys, hy⟩ := hp.mp h
       rw [hx0] at hy
       simp at hy
      ·exact h
     simp only [h0, if_true, show (xs.length < 140737488355328) = True from eq_true (by omega)]
     exact app hpf
    ·simp only [h0, if_false]
     have hpos : 0 < xs.length := by omega
     have hw2 : wrap64 ((xs.length : Int) - 1) = ((xs.length - 1 : Nat) : Int) := by unfold wrap64; omega
     obtain ⟨ys, b, hyb⟩ : ∃ ys b, xs = ys ++ [b] := ⟨xs.dropLast, xs.getLast (by intro e; rw [e] at hpos; simp at hpos), (List.dropLast_concat_getLast _).symm⟩
     have hrd : rd (intsOf xs) ((xs.length - 1 : Nat) : Int) = (b.toNat : Int) := by
      unfold rd intsOf
      rw [hyb, Int.toNat_natCast]
      simp
     simp only [hw2, show ((0 : Int) ≤ ((xs.length - 1 : Nat) : Int)) = True from eq_true (by omega), show (((xs.length - 1 : Nat) : Int) < (xs.length : Int)) = True from eq_true (by omega), if_true, hrd, show (xs.length < 140737488355328) = True from eq_true (by omega)]
     by_cases hb45 : (b.toNat : Int) = 45
     ·simp only [hb45, if_true]
      have hpt : p = true := hp.mpr ⟨ys, by rw [hyb]; congr 2; exact UInt8.toNat_inj.mp (by have h45 : (45 : UInt8).toNat = 45 := rfl; omega)⟩
      have h := ih (i + 1) xs true (by omega) (by omega) ⟨fun _ => hp.mp hpt, fun _ => rfl⟩
      refine Gets.congr h ?_
      rw [hpt]
      simp only [dashGo, hd, if_true]
     ·simp only [hb45, if_false]
      refine app ?_
      rcases Bool.eq_false_or_eq_true p with h | h
      ·obtain ⟨zs, hz⟩ := hp.mp h
       have e2 := List.append_inj_right' (hyb.symm.trans hz) rfl
       simp only [List.cons.injEq, and_true] at e2
       rw [e2] at hb45
       exact absurd rfl hb45
      ·exact h
   rcases (dash_is c).mp hd with h | h | h
   ·simp only [h, if_true] at main ⊢; exact main
   ·simp only [h, if_true, show ((95 : Int) = 45) = False from eq_false (by decide), if_false] at main ⊢; exact main
   ·simp only [h, if_true, show ((46 : Int) = 45) = False from eq_false (by decide), show ((46 : Int) = 95) = False from eq_false (by decide), if_false, beq_self_eq_true] at main ⊢; exact main
  ·have hn : ¬ ((c.toNat : Int) = 45 ∨ (c.toNat : Int) = 95 ∨ (c.toNat : Int) = 46) := fun e => hd ((dash_is c).mpr e)
   have h1 : ¬ (c.toNat : Int) = 45 := fun e => hn (Or.inl e)
   have h2 : ¬ (c.toNat : Int) = 95 := fun e => hn (Or.inr (Or.inl e))
   have h3 : ((c.toNat : Int) == 46) = false := beq_eq_false_iff_ne.mpr (fun e => hn (Or.inr (Or.inr e)))
   simp only [h1, h2, h3, if_false]
   refine Gets.succ ?_
   simp only [r2_dashed.j1, yz, if_false, hw, hlen, show (xs.length < 140737488355328) = True from eq_true (by omega), if_true]
   rw [snoc c]
   have hq : ((false : Bool) = true ↔ ∃ ys, xs ++ [c] = ys ++ [45]) := by
    constructor
    ·intro e
     cases e
    ·rintro ⟨ys, hy⟩
     have e2 := List.append_inj_right' hy rfl
     simp only [List.cons.injEq, and_true] at e2
     rw [e2] at h1
     exact absurd rfl h1
   have h := ih (i + 1) (xs ++ [c]) false (by omega) (by simp; omega) hq
   refine Gets.congr h ?_
   simp only [dashGo, hd, yz, if_false, List.append_assoc, List.singleton_append]
theorem ref_dashed (s : ByteArray) (hs : s.size ≤ 100000) : Gets (fun k => r2_dashed.f k s) (dashS s) := by
 have hq : ((false : Bool) = true ↔ ∃ ys : List UInt8, ([] : List UInt8) = ys ++ [45]) := by
  constructor
  ·intro e
   cases e
  ·rintro ⟨ys, hy⟩
   simp at hy
 have h := dash_loop s hs s.size 0 [] false (by omega) (by simp) hq
 rw [List.drop_zero, List.nil_append] at h
 exact h
theorem smallS_size (a : ByteArray) : (smallS a).size = a.size := by
 show (a.data.toList.map smallC).toArray.size = a.data.size
 rw [List.size_toArray, List.length_map, Array.length_toList]
theorem dashS_size (a : ByteArray) : (dashS a).size ≤ a.size := by
 show (dashGo false a.data.toList).toArray.size ≤ a.data.size
 have := dash_go_len a.data.toList false
 rw [Array.length_toList] at this
 rw [List.size_toArray]
 exact this
def canB (a0 a1 a2 a3 : ByteArray) (l : List S64) (a5 : ByteArray) : ByteArray × ByteArray × ByteArray × ByteArray × List S64 × ByteArray :=
 (a0, (if (ruleB a0).2.2.1 = true then smallS a1 else a1), (if (ruleB a0).2.2.2.1 = true then dashS (if (ruleB a0).2.2.1 = true then smallS a2 else a2) else (if (ruleB a0).2.2.1 = true then smallS a2 else a2)), a3, l, a5)
theorem purl_can (a0 a1 a2 a3 : ByteArray) (l : List S64) (a5 : ByteArray) (h1 : a1.size ≤ 200) (h2 : a2.size ≤ 200) (hl : l.length ≤ 10) : purl_canonical.f a0 a1 a2 a3 l a5 = some (canB a0 a1 a2 a3 l a5) := by
 unfold purl_canonical.f canB
 rw [if_pos (by omega), purl_Rule_eq, yx]
 unfold purl_small.f purl_dashed.f
 simp only [show (a1.size < 9223372036854775807) = True from eq_true (by omega), show (a2.size < 9223372036854775807) = True from eq_true (by omega), if_true, yx]
 have hz : (smallS a2).size ≤ 140737488355328 := by rw [smallS_size]; omega
 have hz2 : a2.size ≤ 140737488355328 := by omega
 cases (ruleB a0).2.2.1 <;> cases (ruleB a0).2.2.2.1 <;> simp [hz, hz2]
theorem ref_can (a0 a1 a2 a3 : ByteArray) (l : List S64) (a5 : ByteArray) (h1 : a1.size ≤ 200) (h2 : a2.size ≤ 200) (hl : l.length ≤ 10) : Gets (fun k => r2_canonical.f k a0 a1 a2 a3 l a5) (canB a0 a1 a2 a3 l a5) := by
 unfold r2_canonical.f
 simp only [show (l.length < 4398046511104) = True from eq_true (by omega), if_true]
 refine Gets.bind (ref_Rule a0) ?_
 unfold r2_small.f canB
 simp only [show (a1.size < 9223372036854775807) = True from eq_true (by omega), show (a2.size < 9223372036854775807) = True from eq_true (by omega), if_true, yx]
 have d1 := ref_dashed (smallS a2) (by rw [smallS_size]; omega)
 have d2 := ref_dashed a2 (by omega)
 cases (ruleB a0).2.2.1 <;> cases (ruleB a0).2.2.2.1 <;> simp only [yz, if_false, if_true, yx]
 ·exact Gets.pure _
 ·exact Gets.bind d2 (Gets.pure _)
 ·exact Gets.pure _
 ·exact Gets.bind d1 (Gets.pure _)
set_option maxRecDepth 100000 in
theorem plain_all : ∀ n : Fin 256, r2_plain.f ((n.1 : Nat) : Int) = some (plainC (UInt8.ofNat n.1)) := by decide +kernel
theorem plain_is (c : UInt8) : r2_plain.f (c.toNat : Int) = some (plainC c) := by
 have h := plain_all ⟨c.toNat, c.toNat_lt⟩
 rw [h]
 simp
theorem hexU_bt : ∀ q : Fin 16, bt (⟨#[48, 49, 50, 51, 52, 53, 54, 55, 56, 57, 65, 66, 67, 68, 69, 70]⟩ : ByteArray) ((q.1 : Nat) : Int) = ((hexU q.1).toNat : Int) := by decide +kernel
theorem esc_loop (s : ByteArray) (hs : s.size ≤ 100000) (d : Nat) : ∀ (i : Nat) (xs : List UInt8), i + d = s.size → xs.length ≤ 3 * i → Gets (fun k => r2_escaped.l0 k s (intsOf xs) (i : Int)) ⟨(xs ++ (s.data.toList.drop i).flatMap escC).toArray⟩ := by
 have hl : s.data.toList.length = s.size := by simp
 induction d with
 | zero =>
  intro i xs hi hx
  refine Gets.succ ?_
  simp only [r2_escaped.l0, show ((i : Int) < (s.size : Int)) = False from eq_false (by omega), if_false]
  rw [List.drop_of_length_le (by omega), nums_of]
  simp only [List.flatMap_nil, List.append_nil]
  exact Gets.pure _
 | succ d ih =>
  intro i xs hi hx
  have hb := bt_byte s i (by omega)
  rw [List.drop_eq_getElem_cons (show i < s.data.toList.length by omega)]
  generalize hc : (s.data.toList[i]'(by omega)) = c at *
  have hlen : (intsOf xs).length = xs.length := by simp [intsOf]
  have hc8 := c.toNat_lt
  refine Gets.succ ?_
  simp only [r2_escaped.l0, show ((i : Int) < (s.size : Int)) = True from eq_true (by omega), show ((0 : Int) ≤ (i : Int)) = True from eq_true (by omega), if_true]
  rw [hb, wrap_succ i (by omega)]
  refine Gets.bind (Gets.of (plain_is c)) ?_
  simp only [List.flatMap_cons]
  by_cases hp : plainC c = true
  ·simp only [hp, if_true, hlen, show (xs.length < 140737488355328) = True from eq_true (by omega)]
   have h := ih (i + 1) (xs ++ [c]) (by omega) (by simp; omega)
   have e : intsOf (xs ++ [c]) = intsOf xs ++ [(c.toNat : Int)] := by simp [intsOf]
   rw [e] at h
   refine Gets.congr h ?_
   unfold escC
   simp only [hp, if_true, List.append_assoc]
  ·simp only [hp, if_false, yz]
   have e1 : Int.tdiv (c.toNat : Int) 16 % 256 = ((c.toNat / 16 : Nat) : Int) := by
    rw [Int.tdiv_eq_ediv_of_nonneg (by omega)]; omega
   have e2 : Int.tmod (c.toNat : Int) 16 = ((c.toNat % 16 : Nat) : Int) := by
    rw [Int.tmod_eq_emod_of_nonneg (by omega)]; omega
   have h1 := hexU_bt ⟨c.toNat / 16, by omega⟩
   have h2 := hexU_bt ⟨c.toNat % 16, by omega⟩
   simp only [e1, e2, show ((0 : Int) ≤ ((c.toNat / 16 : Nat) : Int)) = True from eq_true (by omega), show (((c.toNat / 16 : Nat) : Int) < 16) = True from eq_true (by omega), show ((0 : Int) ≤ ((c.toNat % 16 : Nat) : Int)) = True from eq_true (by omega), show (((c.toNat % 16 : Nat) : Int) < 16) = True from eq_true (by omega), if_true, yx, h1, h2, hlen, List.length_cons, List.length_nil, show (xs.length + (0 + 1 + 1 + 1) < 140737488355328) = True from eq_true (by omega)]
   have h := ih (i + 1) (xs ++ [37, hexU (c.toNat / 16), hexU (c.toNat % 16)]) (by omega) (by simp; omega)
   have e : intsOf (xs ++ [37, hexU (c.toNat / 16), hexU (c.toNat % 16)]) = intsOf xs ++ [37, ((hexU (c.toNat / 16)).toNat : Int), ((hexU (c.toNat % 16)).toNat : Int)] := by simp [intsOf]
   rw [e] at h
   refine Gets.congr h ?_
   unfold escC
   simp only [hp, if_false, yz, List.append_assoc]
theorem ref_escaped (s : ByteArray) (hs : s.size ≤ 100000) : Gets (fun k => r2_escaped.f k s) (escS s) := by
 have h := esc_loop s hs s.size 0 [] (by omega) (by simp)
 rw [List.drop_zero, List.nil_append] at h
 exact h
theorem purl_esc (s : ByteArray) (hs : s.size ≤ 100000) : purl_escaped.f s = some (escS s) := if_pos (by omega)
theorem flat_len (l : List UInt8) : (l.flatMap escC).length ≤ 3 * l.length := by
 induction l with
 | nil => simp
 | cons c r ih =>
  have := escC_len c
  simp only [List.flatMap_cons, List.length_append, List.length_cons]
  omega
theorem escS_size (a : ByteArray) : (escS a).size ≤ 3 * a.size := by
 show (a.data.toList.flatMap escC).toArray.size ≤ 3 * a.data.size
 have := flat_len a.data.toList
 rw [Array.length_toList] at this
 rw [List.size_toArray]
 exact this
theorem split_sizes (sep : ByteArray) : ∀ (k : Nat) (s x : ByteArray), x ∈ Lib.splitB sep 0 k s → x.size ≤ s.size
 | 0, s, x, h => by
  rw [Lib.splitB_zero, List.mem_singleton] at h
  rw [h]
  exact Nat.le_refl _
 | k + 1, s, x, h => by
  simp only [Lib.splitB] at h
  split at h
  ·rw [List.mem_singleton] at h
   rw [h]
   exact Nat.le_refl _
  ·rcases List.mem_cons.mp h with h | h
   ·rw [h, ByteArray.size_extract]
    omega
   ·have := split_sizes sep k _ x h
    rw [ByteArray.size_extract] at this
    omega
theorem segL_sizes (s : ByteArray) : ∀ x ∈ segL s, x.size ≤ s.size := by
 intro x h
 unfold segL at h
 split at h
 ·cases h
 ·exact split_sizes _ _ _ _ h
theorem lens_le (B : Nat) : ∀ xs : List (List UInt8), (∀ x ∈ xs, x.length ≤ B) → Lib.lens xs ≤ xs.length * B
 | [], _ => by simp [Lib.lens]
 | x :: xs, h => by
  have h1 := h x List.mem_cons_self
  have h2 := lens_le B xs (fun y hy => h y (List.mem_cons_of_mem _ hy))
  unfold Lib.lens at *
  simp only [List.map_cons, List.sum_cons, List.length_cons, Nat.succ_mul]
  omega
def joinB (s : ByteArray) : ByteArray := ⟨(Lib.join (((segL s).map escS).map (·.data.toList)) [47]).toArray⟩
theorem join_len (s : ByteArray) (hs : s.size ≤ 200) : (Lib.join (((segL s).map escS).map (·.data.toList)) [47]).length ≤ 200000 := by
 have h1 := _root_.Go.Lib.Pa.join_len_le (((segL s).map escS).map (·.data.toList))
 have h2 := lens_le 600 (((segL s).map escS).map (·.data.toList)) (fun x hx => by
  obtain ⟨y, hy, rfl⟩ := List.mem_map.mp hx
  obtain ⟨z, hz, rfl⟩ := List.mem_map.mp hy
  have h3 := escS_size z
  have h4 := segL_sizes s z hz
  show (escS z).data.toList.length ≤ 600
  rw [Array.length_toList]
  show (escS z).size ≤ 600
  omega)
 have h5 := segL_len s
 simp only [List.length_map] at h1 h2
 have h6 : (segL s).length * 600 ≤ 201 * 600 := Nat.mul_le_mul_right 600 (by omega)
 omega
theorem join_ok (s : ByteArray) (hs : s.size ≤ 200) : lib_Join.f ((segL s).map escS) ⟨#[47]⟩ = some (joinB s) := by
 unfold lib_Join.f
 have h5 := segL_len s
 have h6 := join_len s hs
 rw [if_pos ⟨by rw [List.length_map]; omega, by show (Lib.join (((segL s).map escS).map (·.data.toList)) [47]).length ≤ _; omega⟩]
 rfl
theorem joinB_size (s : ByteArray) (hs : s.size ≤ 200) : (joinB s).size ≤ 200000 := by
 show (Lib.join (((segL s).map escS).map (·.data.toList)) [47]).toArray.size ≤ 200000
 rw [List.size_toArray]
 exact join_len s hs
theorem rdOf_get (l : List ByteArray) (i : Nat) (h : i < l.length) : rdOf ByteArray.empty l (i : Int) = l[i] := by
 unfold rdOf
 rw [Int.toNat_natCast, List.getD_eq_getElem?_getD, List.getElem?_eq_getElem h]
 rfl
theorem take_esc (l : List ByteArray) (i : Nat) (h : i < l.length) : (l.take i).map escS ++ [escS l[i]] = (l.take (i + 1)).map escS := by
 rw [List.take_succ_eq_append_getElem h, List.map_append]
 rfl
theorem path_loop (l : List ByteArray) (hl : l.length ≤ 1000) (hs : ∀ x ∈ l, x.size ≤ 200) (J : ByteArray) (hJ : lib_Join.f (l.map escS) ⟨#[47]⟩ = some J) (d : Nat) : ∀ i, i + d = l.length → Gets (fun k => purl_path.l0 k ((l.take i).map escS) l (l.length : Int) (i : Int)) J := by
 induction d with
 | zero =>
  intro i hi
  obtain rfl : i = l.length := by omega
  refine Gets.succ ?_
  simp only [purl_path.l0, show ((l.length : Int) < (l.length : Int)) = False from eq_false (by omega), if_false, List.take_length, hJ, yx]
  exact Gets.pure _
 | succ d ih =>
  intro i hi
  have hih := ih (i + 1) (by omega)
  refine Gets.succ ?_
  simp only [purl_path.l0, show ((i : Int) < (l.length : Int)) = True from eq_true (by omega), show ((0 : Int) ≤ (i : Int)) = True from eq_true (by omega), if_true]
  rw [rdOf_get l i (by omega), wrap_succ i (by omega), purl_esc _ (by have := hs _ (List.getElem_mem (show i < l.length by omega)); omega)]
  have hln : ((l.take i).map escS).length = i := by rw [List.length_map, List.length_take]; omega
  simp only [yx, hln, show (i < 8796093022208) = True from eq_true (by omega), if_true]
  rw [take_esc l i (by omega)]
  exact hih
theorem purl_path_gets (s : ByteArray) (hs : s.size ≤ 200) : Gets (fun k => purl_path.f k s) (joinB s) := by
 unfold purl_path.f
 rw [purl_segs s (by omega)]
 simp only [yx]
 have h5 := segL_len s
 have h := path_loop (segL s) (by omega) (fun x hx => by have := segL_sizes s x hx; omega) (joinB s) (join_ok s hs) (segL s).length 0 (by omega)
 rw [List.take_zero, List.map_nil] at h
 exact h
theorem rpath_loop (l : List ByteArray) (hl : l.length ≤ 1000) (hs : ∀ x ∈ l, x.size ≤ 200) (J : ByteArray) (hJ : lib_Join.f (l.map escS) ⟨#[47]⟩ = some J) (d : Nat) : ∀ i, i + d = l.length → Gets (fun k => r2_escapedPath.l0 k ((l.take i).map escS) l (l.length : Int) (i : Int)) J := by
 induction d with
 | zero =>
  intro i hi
  obtain rfl : i = l.length := by omega
  refine Gets.succ ?_
  simp only [r2_escapedPath.l0, show ((l.length : Int) < (l.length : Int)) = False from eq_false (by omega), if_false, List.take_length, hJ, yx]
  exact Gets.pure _
 | succ d ih =>
  intro i hi
  have hih := ih (i + 1) (by omega)
  refine Gets.succ ?_
  simp only [r2_escapedPath.l0, show ((i : Int) < (l.length : Int)) = True from eq_true (by omega), show ((0 : Int) ≤ (i : Int)) = True from eq_true (by omega), if_true]
  rw [rdOf_get l i (by omega), wrap_succ i (by omega)]
  have hln : ((l.take i).map escS).length = i := by rw [List.length_map, List.length_take]; omega
  simp only [hln, show (i < 8796093022208) = True from eq_true (by omega), if_true]
  refine Gets.bind (ref_escaped _ (by have := hs _ (List.getElem_mem (show i < l.length by omega)); omega)) ?_
  rw [take_esc l i (by omega)]
  exact hih
theorem ref_path (s : ByteArray) (hs : s.size ≤ 200) : Gets (fun k => r2_escapedPath.f k s) (joinB s) := by
 unfold r2_escapedPath.f
 rw [ref_segs s (by omega)]
 simp only [yx]
 have h5 := segL_len s
 have h := rpath_loop (segL s) (by omega) (fun x hx => by have := segL_sizes s x hx; omega) (joinB s) (join_ok s hs) (segL s).length 0 (by omega)
 rw [List.take_zero, List.map_nil] at h
 exact h
theorem sz1 (c : UInt8) : (⟨#[c]⟩ : ByteArray).size = 1 := rfl
theorem app_assoc (a b c : ByteArray) : (a ++ b) ++ c = a ++ (b ++ c) := by
 apply ByteArray.ext
 simp [ByteArray.data_append]
theorem empty_list : (⟨#[]⟩ : ByteArray).toList = [] := by rw [ByteArray.toList_eq]
def preB (z0 z1 : ByteArray) : ByteArray := if z1.toList = [] then ((⟨#[112, 107, 103, 58]⟩ : ByteArray) ++ z0) ++ ⟨#[47]⟩ else (((⟨#[112, 107, 103, 58]⟩ : ByteArray) ++ z0) ++ ⟨#[47]⟩) ++ (joinB z1 ++ ⟨#[47]⟩)
def keyB (z0 z1 z2 : ByteArray) : ByteArray := preB z0 z1 ++ escS z2
def versB (z3 s : ByteArray) : ByteArray := if z3.toList = [] then s else s ++ ((⟨#[64]⟩ : ByteArray) ++ escS z3)
def signB (i : Nat) : ByteArray := if i = 0 then ⟨#[63]⟩ else ⟨#[38]⟩
def quB (l : List S64) : Nat → Nat → ByteArray → ByteArray
 | 0, _, s => s
 | d + 1, i, s => quB l d (i + 1) (s ++ (((signB i ++ (rd_T64 l i).f0) ++ ⟨#[61]⟩) ++ escS (rd_T64 l i).f1))
def subB (z5 s : ByteArray) : ByteArray := if z5.toList = [] then s else s ++ ((⟨#[35]⟩ : ByteArray) ++ joinB z5)
def fullB (z0 z1 z2 z3 : ByteArray) (l : List S64) (z5 : ByteArray) : ByteArray := subB z5 (quB l l.length 0 (versB z3 (keyB z0 z1 z2)))
def cutB (s : ByteArray) : ByteArray × Int := if (s.size : Int) > 3000 then (⟨#[]⟩, 3) else (s, 0)
theorem preB_size (z0 z1 : ByteArray) (h0 : z0.size ≤ 200) (h1 : z1.size ≤ 200) : (preB z0 z1).size ≤ 200300 := by
 have hj := joinB_size z1 h1
 unfold preB
 split
 ·simp only [ByteArray.size_append, sz1]
  have : (⟨#[112, 107, 103, 58]⟩ : ByteArray).size = 4 := rfl
  omega
 ·simp only [ByteArray.size_append, sz1]
  have : (⟨#[112, 107, 103, 58]⟩ : ByteArray).size = 4 := rfl
  omega
theorem keyB_size (z0 z1 z2 : ByteArray) (h0 : z0.size ≤ 200) (h1 : z1.size ≤ 200) (h2 : z2.size ≤ 200) : (keyB z0 z1 z2).size ≤ 201000 := by
 have hp := preB_size z0 z1 h0 h1
 have he := escS_size z2
 unfold keyB
 rw [ByteArray.size_append]
 omega
theorem versB_size (z3 s : ByteArray) (h3 : z3.size ≤ 200) (hs : s.size ≤ 201000) : (versB z3 s).size ≤ 202000 := by
 have he := escS_size z3
 unfold versB
 split
 ·omega
 ·simp only [ByteArray.size_append, sz1]
  omega
theorem pkg_size (z0 : ByteArray) (h0 : z0.size ≤ 200) : 4 + z0.size ≤ 9223372036854775807 ∧ ((⟨#[112, 107, 103, 58]⟩ : ByteArray) ++ z0).size + 1 ≤ 9223372036854775807 ∧ (((⟨#[112, 107, 103, 58]⟩ : ByteArray) ++ z0) ++ (⟨#[47]⟩ : ByteArray)).size ≤ 205 := by
 have : (⟨#[112, 107, 103, 58]⟩ : ByteArray).size = 4 := rfl
 simp only [ByteArray.size_append, sz1]
 omega
theorem purl_key (z0 z1 z2 z3 : ByteArray) (l : List S64) (z5 : ByteArray) (h0 : z0.size ≤ 200) (h1 : z1.size ≤ 200) (h2 : z2.size ≤ 200) : Gets (fun k => purl_keyText.f k z0 z1 z2 z3 l z5) (keyB z0 z1 z2) := by
 obtain ⟨p1, p2, p3⟩ := pkg_size z0 h0
 have he := escS_size z2
 have hj := joinB_size z1 h1
 unfold purl_keyText.f keyB preB
 simp only [p1, p2, if_true, purl_esc z2 (by omega), yx]
 by_cases g : z1.toList = []
 ·simp only [g, if_true]
  simp only [show ((((⟨#[112, 107, 103, 58]⟩ : ByteArray) ++ z0) ++ (⟨#[47]⟩ : ByteArray)).size + (escS z2).size ≤ 9223372036854775807) = True from eq_true (by omega), if_true]
  exact Gets.pure _
 ·simp only [g, if_false]
  refine Gets.bind (purl_path_gets z1 h1) ?_
  simp only [show ((joinB z1).size + 1 ≤ 9223372036854775807) = True from eq_true (by omega), show ((((⟨#[112, 107, 103, 58]⟩ : ByteArray) ++ z0) ++ (⟨#[47]⟩ : ByteArray)).size + (joinB z1 ++ (⟨#[47]⟩ : ByteArray)).size ≤ 9223372036854775807) = True from eq_true (by rw [ByteArray.size_append (a := joinB z1), sz1]; omega), if_true]
  simp only [show (((((⟨#[112, 107, 103, 58]⟩ : ByteArray) ++ z0) ++ (⟨#[47]⟩ : ByteArray)) ++ (joinB z1 ++ (⟨#[47]⟩ : ByteArray))).size + (escS z2).size ≤ 9223372036854775807) = True from eq_true (by rw [ByteArray.size_append (b := joinB z1 ++ _), ByteArray.size_append (a := joinB z1), sz1]; omega), if_true]
  exact Gets.pure _
theorem print_l0 (l : List S64) (hl : l.length ≤ 10) (hq : ∀ q ∈ l, q.f0.size ≤ 200 ∧ q.f1.size ≤ 200) (z0 z1 z2 z3 z5 : ByteArray) (h5 : z5.size ≤ 200) (d : Nat) : ∀ (i : Nat) (s : ByteArray), i + d = l.length → s.size ≤ 202000 + 2000 * i → Gets (fun k => purl_Print.l0 k s l (l.length : Int) (i : Int) z0 z1 z2 z3 l z5) (cutB (subB z5 (quB l d i s))) := by
 induction d with
 | zero =>
  intro i s hi hs
  have hj := joinB_size z5 h5
  refine Gets.succ ?_
  simp only [purl_Print.l0, show ((i : Int) < (l.length : Int)) = False from eq_false (by omega), if_false, quB]
  unfold subB cutB
  by_cases g : z5.toList = []
  ·simp only [g, if_true]
   by_cases h : (s.size : Int) > 3000
   ·simp only [h, if_true]; exact Gets.pure _
   ·simp only [h, if_false]; exact Gets.pure _
  ·simp only [g, if_false]
   refine Gets.bind (purl_path_gets z5 h5) ?_
   simp only [show (1 + (joinB z5).size ≤ 9223372036854775807) = True from eq_true (by omega), show (s.size + ((⟨#[35]⟩ : ByteArray) ++ joinB z5).size ≤ 9223372036854775807) = True from eq_true (by rw [ByteArray.size_append, sz1]; omega), if_true]
   by_cases h : ((s ++ ((⟨#[35]⟩ : ByteArray) ++ joinB z5)).size : Int) > 3000
   ·simp only [h, if_true]; exact Gets.pure _
   ·simp only [h, if_false]; exact Gets.pure _
 | succ d ih =>
  intro i s hi hs
  obtain ⟨g0, g1⟩ := hq _ (rd64_mem l i (by omega))
  refine Gets.succ ?_
  simp only [purl_Print.l0, show ((i : Int) < (l.length : Int)) = True from eq_true (by omega), show ((0 : Int) ≤ (i : Int)) = True from eq_true (by omega), if_true, quB]
  rw [wrap_succ i (by omega)]
  generalize rd_T64 l (i : Int) = q at *
  have he := escS_size q.f1
  have hsg : (signB i).size = 1 := by unfold signB; split <;> rfl
  have hsz : ((((signB i ++ q.f0) ++ (⟨#[61]⟩ : ByteArray)) ++ escS q.f1)).size ≤ 900 := by simp only [ByteArray.size_append, sz1, hsg]; omega
  have hih := ih (i + 1) (s ++ (((signB i ++ q.f0) ++ ⟨#[61]⟩) ++ escS q.f1)) (by omega) (by rw [ByteArray.size_append]; omega)
  by_cases hz : i = 0
  ·have e : signB i = ⟨#[63]⟩ := if_pos hz
   rw [e] at hih hsz ⊢
   simp only [show ((i : Int) = 0) = True from eq_true (by omega), if_true, show (1 + q.f0.size ≤ 9223372036854775807) = True from eq_true (by omega), show (((⟨#[63]⟩ : ByteArray) ++ q.f0).size + 1 ≤ 9223372036854775807) = True from eq_true (by rw [ByteArray.size_append, sz1]; omega), purl_esc q.f1 (by omega), yx, show ((((⟨#[63]⟩ : ByteArray) ++ q.f0) ++ (⟨#[61]⟩ : ByteArray)).size + (escS q.f1).size ≤ 9223372036854775807) = True from eq_true (by rw [← ByteArray.size_append]; omega), show (s.size + ((((⟨#[63]⟩ : ByteArray) ++ q.f0) ++ (⟨#[61]⟩ : ByteArray)) ++ escS q.f1).size ≤ 9223372036854775807) = True from eq_true (by omega)]
   exact hih
  ·have e : signB i = ⟨#[38]⟩ := if_neg hz
   rw [e] at hih hsz ⊢
   simp only [show ((i : Int) = 0) = False from eq_false (by omega), if_false, if_true, show (1 + q.f0.size ≤ 9223372036854775807) = True from eq_true (by omega), show (((⟨#[38]⟩ : ByteArray) ++ q.f0).size + 1 ≤ 9223372036854775807) = True from eq_true (by rw [ByteArray.size_append, sz1]; omega), purl_esc q.f1 (by omega), yx, show ((((⟨#[38]⟩ : ByteArray) ++ q.f0) ++ (⟨#[61]⟩ : ByteArray)).size + (escS q.f1).size ≤ 9223372036854775807) = True from eq_true (by rw [← ByteArray.size_append]; omega), show (s.size + ((((⟨#[38]⟩ : ByteArray) ++ q.f0) ++ (⟨#[61]⟩ : ByteArray)) ++ escS q.f1).size ≤ 9223372036854775807) = True from eq_true (by omega)]
   exact hih
theorem text_l0 (l : List S64) (hl : l.length ≤ 10) (hq : ∀ q ∈ l, q.f0.size ≤ 200 ∧ q.f1.size ≤ 200) (z0 z1 z2 z3 z5 : ByteArray) (h5 : z5.size ≤ 200) (d : Nat) : ∀ (i : Nat) (s : ByteArray), i + d = l.length → s.size ≤ 202000 + 2000 * i → Gets (fun k => r2_text.l0 k s l (l.length : Int) (i : Int) z0 z1 z2 z3 l z5) (subB z5 (quB l d i s)) := by
 induction d with
 | zero =>
  intro i s hi hs
  have hj := joinB_size z5 h5
  refine Gets.succ ?_
  simp only [r2_text.l0, show ((i : Int) < (l.length : Int)) = False from eq_false (by omega), if_false, quB]
  unfold subB
  by_cases g : z5.toList = []
  ·simp only [g, if_true]
   exact Gets.pure _
  ·simp only [g, if_false]
   refine Gets.bind (ref_path z5 h5) ?_
   simp only [show (1 + (joinB z5).size ≤ 9223372036854775807) = True from eq_true (by omega), show (s.size + ((⟨#[35]⟩ : ByteArray) ++ joinB z5).size ≤ 9223372036854775807) = True from eq_true (by rw [ByteArray.size_append, sz1]; omega), if_true]
   exact Gets.pure _
 | succ d ih =>
  intro i s hi hs
  obtain ⟨g0, g1⟩ := hq _ (rd64_mem l i (by omega))
  refine Gets.succ ?_
  simp only [r2_text.l0, show ((i : Int) < (l.length : Int)) = True from eq_true (by omega), show ((0 : Int) ≤ (i : Int)) = True from eq_true (by omega), if_true, quB]
  rw [wrap_succ i (by omega)]
  generalize rd_T64 l (i : Int) = q at *
  have he := escS_size q.f1
  have hsg : (signB i).size = 1 := by unfold signB; split <;> rfl
  have hsz : ((q.f0 ++ (⟨#[61]⟩ : ByteArray)) ++ escS q.f1).size ≤ 900 := by simp only [ByteArray.size_append, sz1]; omega
  have eass : s ++ (((signB i ++ q.f0) ++ ⟨#[61]⟩) ++ escS q.f1) = (s ++ signB i) ++ ((q.f0 ++ ⟨#[61]⟩) ++ escS q.f1) := by simp only [app_assoc]
  have hss : (s ++ signB i).size = s.size + 1 := by rw [ByteArray.size_append, hsg]
  have hih := ih (i + 1) (s ++ (((signB i ++ q.f0) ++ ⟨#[61]⟩) ++ escS q.f1)) (by omega) (by rw [eass, ByteArray.size_append]; omega)
  rw [eass] at hih ⊢
  by_cases hz : i = 0
  ·have e : signB i = ⟨#[63]⟩ := if_pos hz
   rw [e] at hih hss ⊢
   simp only [show ((i : Int) = 0) = True from eq_true (by omega), if_true, show (s.size + 1 ≤ 9223372036854775807) = True from eq_true (by omega), show (q.f0.size + 1 ≤ 9223372036854775807) = True from eq_true (by omega)]
   refine Gets.bind (ref_escaped q.f1 (by omega)) ?_
   simp only [show ((q.f0 ++ (⟨#[61]⟩ : ByteArray)).size + (escS q.f1).size ≤ 9223372036854775807) = True from eq_true (by rw [← ByteArray.size_append]; omega), show ((s ++ (⟨#[63]⟩ : ByteArray)).size + ((q.f0 ++ (⟨#[61]⟩ : ByteArray)) ++ escS q.f1).size ≤ 9223372036854775807) = True from eq_true (by omega), if_true]
   exact hih
  ·have e : signB i = ⟨#[38]⟩ := if_neg hz
   rw [e] at hih hss ⊢
   simp only [show ((i : Int) = 0) = False from eq_false (by omega), if_false, if_true, show (s.size + 1 ≤ 9223372036854775807) = True from eq_true (by omega), show (q.f0.size + 1 ≤ 9223372036854775807) = True from eq_true (by omega)]
   refine Gets.bind (ref_escaped q.f1 (by omega)) ?_
   simp only [show ((q.f0 ++ (⟨#[61]⟩ : ByteArray)).size + (escS q.f1).size ≤ 9223372036854775807) = True from eq_true (by rw [← ByteArray.size_append]; omega), show ((s ++ (⟨#[38]⟩ : ByteArray)).size + ((q.f0 ++ (⟨#[61]⟩ : ByteArray)) ++ escS q.f1).size ≤ 9223372036854775807) = True from eq_true (by omega), if_true]
   exact hih
theorem ref_text (z0 z1 z2 z3 : ByteArray) (l : List S64) (z5 : ByteArray) (h0 : z0.size ≤ 200) (h1 : z1.size ≤ 200) (h2 : z2.size ≤ 200) (h3 : z3.size ≤ 200) (h5 : z5.size ≤ 200) (hl : l.length ≤ 10) (hq : ∀ q ∈ l, q.f0.size ≤ 200 ∧ q.f1.size ≤ 200) : Gets (fun k => r2_text.f k z0 z1 z2 z3 l z5) (fullB z0 z1 z2 z3 l z5) := by
 obtain ⟨p1, p2, p3⟩ := pkg_size z0 h0
 have he := escS_size z2
 have he3 := escS_size z3
 have hj := joinB_size z1 h1
 have j0 : ∀ s : ByteArray, s.size ≤ 200300 → Gets (fun k => r2_text.j0 k s z0 z1 z2 z3 l z5) (subB z5 (quB l l.length 0 (versB z3 (s ++ escS z2)))) := by
  intro s hs
  have hs2 : (s ++ escS z2).size ≤ 201000 := by rw [ByteArray.size_append]; omega
  have j1 : ∀ t : ByteArray, t.size ≤ 202000 → Gets (fun k => r2_text.j1 k t z0 z1 z2 z3 l z5) (subB z5 (quB l l.length 0 t)) := by
   intro t ht
   refine Gets.succ ?_
   simp only [r2_text.j1]
   exact text_l0 l hl hq z0 z1 z2 z3 z5 h5 l.length 0 t (by omega) (by omega)
  refine Gets.succ ?_
  simp only [r2_text.j0]
  refine Gets.bind (ref_escaped z2 (by omega)) ?_
  simp only [show (s.size + (escS z2).size ≤ 9223372036854775807) = True from eq_true (by omega), if_true]
  unfold versB
  by_cases g : z3.toList = []
  ·simp only [g, if_true]
   exact j1 _ (by omega)
  ·simp only [g, if_false]
   refine Gets.bind (ref_escaped z3 (by omega)) ?_
   simp only [show (1 + (escS z3).size ≤ 9223372036854775807) = True from eq_true (by omega), show ((s ++ escS z2).size + ((⟨#[64]⟩ : ByteArray) ++ escS z3).size ≤ 9223372036854775807) = True from eq_true (by rw [ByteArray.size_append (b := escS z3), sz1]; omega), if_true]
   exact j1 _ (by rw [ByteArray.size_append, ByteArray.size_append (b := escS z3), sz1]; omega)
 unfold r2_text.f fullB keyB preB
 simp only [p1, p2, if_true]
 by_cases g : z1.toList = []
 ·simp only [g, if_true]
  exact j0 _ (by omega)
 ·simp only [g, if_false]
  refine Gets.bind (ref_path z1 h1) ?_
  simp only [show ((joinB z1).size + 1 ≤ 9223372036854775807) = True from eq_true (by omega), show ((((⟨#[112, 107, 103, 58]⟩ : ByteArray) ++ z0) ++ (⟨#[47]⟩ : ByteArray)).size + (joinB z1 ++ (⟨#[47]⟩ : ByteArray)).size ≤ 9223372036854775807) = True from eq_true (by rw [ByteArray.size_append (a := joinB z1), sz1]; omega), if_true]
  exact j0 _ (by rw [ByteArray.size_append (b := joinB z1 ++ _), ByteArray.size_append (a := joinB z1), sz1]; omega)
theorem kind_size {a0 : ByteArray} (h : (ruleB a0).2.2.2.2.2 = 0) : a0.size ≤ 9 := by
 have hp : placeN a0.toList < 5 := by
  unfold ruleB at h
  by_cases g : placeN a0.toList < 5
  ·exact g
  ·rw [if_neg g] at h
   exact absurd h (by decide)
 have hg := placeN_get a0.toList _ rfl hp
 have hs : a0.toList.length = a0.size := by rw [ByteArray.toList_eq, Array.length_toList]; rfl
 have hm : a0.toList ∈ kindL := List.mem_of_getElem? hg
 have hall : ∀ x ∈ kindL, x.length ≤ 9 := by decide
 have := hall _ hm
 omega
def Y1 (a0 a1 : ByteArray) : ByteArray := if (ruleB a0).2.2.1 = true then smallS a1 else a1
def Z2 (a0 a2 : ByteArray) : ByteArray := if (ruleB a0).2.2.2.1 = true then dashS (if (ruleB a0).2.2.1 = true then smallS a2 else a2) else (if (ruleB a0).2.2.1 = true then smallS a2 else a2)
theorem can_eq (a0 a1 a2 a3 : ByteArray) (l : List S64) (a5 : ByteArray) : canB a0 a1 a2 a3 l a5 = (a0, Y1 a0 a1, Z2 a0 a2, a3, l, a5) := rfl
theorem Y1_size (a0 a1 : ByteArray) : (Y1 a0 a1).size ≤ a1.size := by
 unfold Y1
 split
 ·rw [smallS_size]; exact Nat.le_refl _
 ·exact Nat.le_refl _
theorem Z2_size (a0 a2 : ByteArray) : (Z2 a0 a2).size ≤ a2.size := by
 have h : (if (ruleB a0).2.2.1 = true then smallS a2 else a2).size ≤ a2.size := Y1_size a0 a2
 unfold Z2
 split
 ·exact Nat.le_trans (dashS_size _) h
 ·exact h
theorem chkV_zero {a0 a1 a2 a3 a5 : ByteArray} {l : List S64} (h : chkV a0 a1 a2 a3 l a5 = 0) : (ruleB a0).2.2.2.2.2 = 0 ∧ overB a1 a2 a3 l a5 = false := by
 unfold chkV at h
 by_cases h0 : (ruleB a0).2.2.2.2.2 = 0
 ·rw [if_pos h0] at h
  by_cases h1 : overB a1 a2 a3 l a5 = true
  ·rw [if_pos h1] at h; exact absurd h (by decide)
  ·exact ⟨h0, by rw [Bool.not_eq_true] at h1; exact h1⟩
 ·rw [if_neg h0] at h; exact absurd h h0
section
variable (a0 a1 a2 a3 : ByteArray) (l : List S64) (a5 : ByteArray) (hl : l.length ≤ 9223372036854775806)
include hl
theorem purl_Print_gets : Gets (fun k => purl_Print.f k a0 a1 a2 a3 l a5) (if chkV a0 a1 a2 a3 l a5 = 0 then cutB (fullB a0 (Y1 a0 a1) (Z2 a0 a2) a3 l a5) else (⟨#[]⟩, chkV a0 a1 a2 a3 l a5)) := by
 unfold purl_Print.f
 refine Gets.bind (purl_Check_gets a0 a1 a2 a3 l hl a5) ?_
 by_cases h : chkV a0 a1 a2 a3 l a5 = 0
 ·obtain ⟨h0, hov⟩ := chkV_zero h
  obtain ⟨s1, s2, s3, s5, sl, sq⟩ := over_false hov
  have s0 := kind_size h0
  have y1 := Y1_size a0 a1
  have z2 := Z2_size a0 a2
  have e3 := escS_size a3
  simp only [h, if_true]
  rw [purl_can a0 a1 a2 a3 l a5 s1 s2 sl, can_eq]
  simp only [yx]
  refine Gets.bind (purl_key a0 (Y1 a0 a1) (Z2 a0 a2) a3 l a5 (by omega) (by omega) (by omega)) ?_
  have hk := keyB_size a0 (Y1 a0 a1) (Z2 a0 a2) (by omega) (by omega) (by omega)
  have hv := versB_size a3 _ (by omega) hk
  have j0 : ∀ s : ByteArray, s.size ≤ 202000 → Gets (fun k => purl_Print.j0 k s a0 (Y1 a0 a1) (Z2 a0 a2) a3 l a5) (cutB (subB a5 (quB l l.length 0 s))) := by
   intro s hs
   refine Gets.succ ?_
   simp only [purl_Print.j0]
   exact print_l0 l sl sq a0 (Y1 a0 a1) (Z2 a0 a2) a3 a5 s5 l.length 0 s (by omega) (by omega)
  have hj := j0 _ hv
  unfold fullB
  by_cases g : a3.toList = []
  ·simp only [g, if_true]
   have ev : versB a3 (keyB a0 (Y1 a0 a1) (Z2 a0 a2)) = keyB a0 (Y1 a0 a1) (Z2 a0 a2) := if_pos g
   rw [ev] at hj ⊢
   exact hj
  ·simp only [g, if_false, purl_esc a3 (by omega), yx, show (1 + (escS a3).size ≤ 9223372036854775807) = True from eq_true (by omega), show ((keyB a0 (Y1 a0 a1) (Z2 a0 a2)).size + ((⟨#[64]⟩ : ByteArray) ++ escS a3).size ≤ 9223372036854775807) = True from eq_true (by rw [ByteArray.size_append, sz1]; omega), if_true]
   have ev : versB a3 (keyB a0 (Y1 a0 a1) (Z2 a0 a2)) = keyB a0 (Y1 a0 a1) (Z2 a0 a2) ++ ((⟨#[64]⟩ : ByteArray) ++ escS a3) := if_neg g
   rw [ev] at hj ⊢
   exact hj
 ·simp only [h, if_false]
  exact Gets.pure _
theorem ref_Print_gets : Gets (fun k => r2_Print.f k a0 a1 a2 a3 l a5) (if chkV a0 a1 a2 a3 l a5 = 0 then cutB (fullB a0 (Y1 a0 a1) (Z2 a0 a2) a3 l a5) else (⟨#[]⟩, chkV a0 a1 a2 a3 l a5)) := by
 unfold r2_Print.f
 refine Gets.bind (ref_Check_gets a0 a1 a2 a3 l hl a5) ?_
 by_cases h : chkV a0 a1 a2 a3 l a5 = 0
 ·obtain ⟨h0, hov⟩ := chkV_zero h
  obtain ⟨s1, s2, s3, s5, sl, sq⟩ := over_false hov
  have s0 := kind_size h0
  have y1 := Y1_size a0 a1
  have z2 := Z2_size a0 a2
  simp only [h, if_true]
  refine Gets.bind (ref_can a0 a1 a2 a3 l a5 s1 s2 sl) ?_
  rw [can_eq]
  refine Gets.bind (ref_text a0 (Y1 a0 a1) (Z2 a0 a2) a3 l a5 (by omega) (by omega) (by omega) s3 s5 sl sq) ?_
  unfold cutB
  by_cases g : ((fullB a0 (Y1 a0 a1) (Z2 a0 a2) a3 l a5).size : Int) > 3000
  ·simp only [g, if_true]; exact Gets.pure _
  ·simp only [g, if_false]; exact Gets.pure _
 ·simp only [h, if_false]
  exact Gets.pure _
theorem purl_Key_gets : Gets (fun k => purl_Key.f k a0 a1 a2 a3 l a5) (if chkV a0 a1 a2 a3 l a5 = 0 then (keyB a0 (Y1 a0 a1) (Z2 a0 a2), 0) else (⟨#[]⟩, chkV a0 a1 a2 a3 l a5)) := by
 unfold purl_Key.f
 refine Gets.bind (purl_Check_gets a0 a1 a2 a3 l hl a5) ?_
 by_cases h : chkV a0 a1 a2 a3 l a5 = 0
 ·obtain ⟨h0, hov⟩ := chkV_zero h
  obtain ⟨s1, s2, s3, s5, sl, sq⟩ := over_false hov
  have s0 := kind_size h0
  have y1 := Y1_size a0 a1
  have z2 := Z2_size a0 a2
  simp only [h, if_true]
  rw [purl_can a0 a1 a2 a3 l a5 s1 s2 sl, can_eq]
  simp only [yx]
  exact Gets.bind (purl_key a0 (Y1 a0 a1) (Z2 a0 a2) a3 l a5 (by omega) (by omega) (by omega)) (Gets.pure _)
 ·simp only [h, if_false]
  exact Gets.pure _
theorem ref_Key_gets : Gets (fun k => r2_Key.f k a0 a1 a2 a3 l a5) (if chkV a0 a1 a2 a3 l a5 = 0 then (keyB a0 (Y1 a0 a1) (Z2 a0 a2), 0) else (⟨#[]⟩, chkV a0 a1 a2 a3 l a5)) := by
 unfold r2_Key.f
 refine Gets.bind (ref_Check_gets a0 a1 a2 a3 l hl a5) ?_
 by_cases h : chkV a0 a1 a2 a3 l a5 = 0
 ·obtain ⟨h0, hov⟩ := chkV_zero h
  obtain ⟨s1, s2, s3, s5, sl, sq⟩ := over_false hov
  have s0 := kind_size h0
  have y1 := Y1_size a0 a1
  have z2 := Z2_size a0 a2
  simp only [h, if_true]
  refine Gets.bind (a := keyB a0 (Y1 a0 a1) (Z2 a0 a2)) ?_ (Gets.pure _)
  unfold r2_key.f
  refine Gets.bind (ref_can a0 a1 a2 a3 l a5 s1 s2 sl) ?_
  rw [can_eq]
  have hs0 : (⟨#[]⟩ : ByteArray).size = 0 := rfl
  have ht := ref_text a0 (Y1 a0 a1) (Z2 a0 a2) ⟨#[]⟩ [] ⟨#[]⟩ (by omega) (by omega) (by omega) (by omega) (by omega) (by simp) (fun q hq => by cases hq)
  have ef : fullB a0 (Y1 a0 a1) (Z2 a0 a2) ⟨#[]⟩ [] ⟨#[]⟩ = keyB a0 (Y1 a0 a1) (Z2 a0 a2) := by
   unfold fullB subB versB
   rw [if_pos empty_list, if_pos empty_list]
   rfl
  rw [ef] at ht
  exact Gets.bind ht (Gets.pure _)
 ·simp only [h, if_false]
  exact Gets.pure _
def canV : ByteArray × ByteArray × ByteArray × ByteArray × List S64 × ByteArray × Int := if chkV a0 a1 a2 a3 l a5 = 0 then (a0, Y1 a0 a1, Z2 a0 a2, a3, l, a5, 0) else (⟨#[]⟩, ⟨#[]⟩, ⟨#[]⟩, ⟨#[]⟩, [], ⟨#[]⟩, chkV a0 a1 a2 a3 l a5)
omit hl in
theorem canV_len (hl : l.length ≤ 9223372036854775806) : (canV a0 a1 a2 a3 l a5).2.2.2.2.1.length ≤ 9223372036854775806 := by
 unfold canV
 split
 ·exact hl
 ·simp
theorem purl_Canonical_gets : Gets (fun k => purl_Canonical.f k a0 a1 a2 a3 l a5) (canV a0 a1 a2 a3 l a5) := by
 unfold purl_Canonical.f canV
 refine Gets.bind (purl_Check_gets a0 a1 a2 a3 l hl a5) ?_
 by_cases h : chkV a0 a1 a2 a3 l a5 = 0
 ·obtain ⟨h0, hov⟩ := chkV_zero h
  obtain ⟨s1, s2, s3, s5, sl, sq⟩ := over_false hov
  simp only [h, if_true]
  rw [purl_can a0 a1 a2 a3 l a5 s1 s2 sl, can_eq]
  simp only [yx]
  exact Gets.pure _
 ·simp only [h, if_false]
  exact Gets.pure _
theorem ref_Canonical_gets : Gets (fun k => r2_Canonical.f k a0 a1 a2 a3 l a5) (canV a0 a1 a2 a3 l a5) := by
 unfold r2_Canonical.f canV
 refine Gets.bind (ref_Check_gets a0 a1 a2 a3 l hl a5) ?_
 by_cases h : chkV a0 a1 a2 a3 l a5 = 0
 ·obtain ⟨h0, hov⟩ := chkV_zero h
  obtain ⟨s1, s2, s3, s5, sl, sq⟩ := over_false hov
  simp only [h, if_true]
  refine Gets.bind (ref_can a0 a1 a2 a3 l a5 s1 s2 sl) ?_
  rw [can_eq]
  exact Gets.pure _
 ·simp only [h, if_false]
  exact Gets.pure _
end
theorem pair_loop (l : List S64) (hl : l.length ≤ 9223372036854775806) (d : Nat) : ∀ i, i + d = l.length → Gets (fun k => api_Pair.l0 k l l (l.length : Int) (i : Int)) true := by
 induction d with
 | zero =>
  intro i hi
  refine Gets.succ ?_
  simp only [api_Pair.l0, show ((i : Int) < (l.length : Int)) = False from eq_false (by omega), if_false]
  exact Gets.pure _
 | succ d ih =>
  intro i hi
  refine Gets.succ ?_
  simp only [api_Pair.l0, show ((i : Int) < (l.length : Int)) = True from eq_true (by omega), show ((0 : Int) ≤ (i : Int)) = True from eq_true (by omega), if_true, beq_self_eq_true, Bool.not_true, Bool.or_self, yz, if_false]
  rw [wrap_succ i (by omega)]
  exact ih (i + 1) (by omega)
theorem same_gets (x0 x1 x2 x3 : ByteArray) (l : List S64) (hl : l.length ≤ 9223372036854775806) (x5 : ByteArray) : Gets (fun k => l2_same.f k x0 x1 x2 x3 l x5 x0 x1 x2 x3 l x5) true := by
 unfold l2_same.f
 simp only [if_true]
 refine Gets.bind (a := true) ?_ (Gets.pure _)
 unfold api_Pair.f
 simp only [if_true]
 exact pair_loop l hl l.length 0 (by omega)
theorem canonical_true (a0 a1 a2 a3 : ByteArray) (l : List S64) (a5 : ByteArray) (hl : l.length ≤ 9223372036854775806) : Gets (fun k => l2_C.f k a0 a1 a2 a3 l a5) true := by
 unfold l2_C.f
 refine Gets.bind (ref_Canonical_gets a0 a1 a2 a3 l a5 hl) (Gets.bind (purl_Canonical_gets a0 a1 a2 a3 l a5 hl) (Gets.bind (ref_Print_gets a0 a1 a2 a3 l a5 hl) (Gets.bind (purl_Print_gets a0 a1 a2 a3 l a5 hl) (Gets.bind (ref_Key_gets a0 a1 a2 a3 l a5 hl) (Gets.bind (purl_Key_gets a0 a1 a2 a3 l a5 hl) (Gets.bind (ref_Check_gets a0 a1 a2 a3 l hl a5) (Gets.bind (purl_Check_gets a0 a1 a2 a3 l hl a5) ?_)))))))
 simp only [if_true]
 refine Gets.bind (same_gets _ _ _ _ _ (canV_len a0 a1 a2 a3 l a5 hl) _) ?_
 simp only [if_true]
 exact Gets.bind told_gets (Gets.pure _)
theorem canonical_row (a0 a1 a2 a3 : ByteArray) (l : List S64) (a5 : ByteArray) (_h0 : a0.size ≤ 140737488351232) (_h1 : a1.size ≤ 140737488351232) (_h2 : a2.size ≤ 140737488351232) (_h3 : a3.size ≤ 140737488351232) (hl : l.length * Tryd.prog.bytesOf 64 ≤ 140737488351232) (_h5 : a5.size ≤ 140737488351232) : Gets (fun k => l2_C.f k a0 a1 a2 a3 l a5) true :=
 canonical_true a0 a1 a2 a3 l a5 (by
  rw [show Tryd.prog.bytesOf 64 = 32 by kernel_rfl] at hl
  omega)
end Go.Proofs.YtmnfjbmhlabdaaaDoor.Pr
