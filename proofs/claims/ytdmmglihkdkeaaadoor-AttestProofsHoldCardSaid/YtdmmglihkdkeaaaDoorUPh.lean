/- What the trees' roots and proofs are, in plain Lean, and that both ways to make them answer so. Conditions: lists of at most 4096 sums. -/
import Derived.Test.YtdmmglihkdkeaaaDoorUPe
import Derived.Test.YtdmmglihkdkeaaaDoorUPrx25
import Derived.Test.YtdmmglihkdkeaaaDoorUPrx26
import Derived.Test.YtdmmglihkdkeaaaDoorUPrx27
import Derived.Test.YtdmmglihkdkeaaaDoorUPrx28
namespace Go.Proofs.YtdmmglihkdkeaaaDoor.Pr
open Go.RowKit Go.Proofs.YtdmmglihkdkeaaaDoorW.PrintWords Go.Proofs.YtdmmglihkdkeaaaDoorW.PrintLast Go.Proofs.YtdmmglihkdkeaaaDoorW.PrintMore
/-- The root of a tree; the number of rounds is the list's length. -/
def rootF : Nat → List ByteArray → ByteArray
  | 0, _ => noT
  | N + 1, l => if l.length = 0 then sumHex noT else if l.length = 1 then rdOf ByteArray.empty l 0 else joinV (rootF N (l.take (halfV l.length))) (rootF N (l.drop (halfV l.length)))
def incF : Nat → List ByteArray → Nat → List ByteArray
  | 0, _, _ => []
  | N + 1, l, i => if l.length = 1 then [] else if i < halfV l.length then incF N (l.take (halfV l.length)) i ++ [rootF N (l.drop (halfV l.length))] else incF N (l.drop (halfV l.length)) (i - halfV l.length) ++ [rootF N (l.take (halfV l.length))]
def conF : Nat → List ByteArray → Nat → Bool → List ByteArray
  | 0, _, _, _ => []
  | N + 1, l, m, b => if m = l.length then (if b = true then [] else [rootF (N + 1) l]) else if m ≤ halfV l.length then conF N (l.take (halfV l.length)) m b ++ [rootF N (l.drop (halfV l.length))] else conF N (l.drop (halfV l.length)) (m - halfV l.length) false ++ [rootF N (l.take (halfV l.length))]
def Sums (l : List ByteArray) : Prop := l.length ≤ 1048576 ∧ ∀ x ∈ l, sumB x = true
theorem Sums.take {l : List ByteArray} (h : Sums l) (n : Nat) : Sums (l.take n) := ⟨by rw [List.length_take]; have := h.1; omega, fun x hx => h.2 x (List.mem_of_mem_take hx)⟩
theorem Sums.drop {l : List ByteArray} (h : Sums l) (n : Nat) : Sums (l.drop n) := ⟨by rw [List.length_drop]; have := h.1; omega, fun x hx => h.2 x (List.mem_of_mem_drop hx)⟩
theorem half_list {l : List ByteArray} (h : Sums l) (h2 : 2 ≤ l.length) : 1 ≤ halfV l.length ∧ halfV l.length < l.length ∧ (l.take (halfV l.length)).length = halfV l.length ∧ (l.drop (halfV l.length)).length = l.length - halfV l.length := by
  have h0 := h.1
  obtain ⟨h3, h4⟩ := half_facts l.length (by omega)
  have h4 := h4 h2
  refine ⟨h3, h4, ?_, ?_⟩
  · rw [List.length_take]; omega
  · rw [List.length_drop]
theorem root_gets (N : Nat) : ∀ (l : List ByteArray), l.length < N → Sums l → Gets (fun k => provenderref8_root.f k l) (rootF N l) ∧ Gets (fun k => attest_root.f k l) (rootF N l) ∧ sumB (rootF N l) = true := by
  induction N with
  | zero => intro l h; omega
  | succ N ih =>
    intro l hl hs
    unfold rootF
    by_cases c0 : l.length = 0
    · rw [if_pos c0]
      refine ⟨Gets.succ ?_, Gets.succ ?_, sumHex_sum _⟩
      · simp only [provenderref8_root.f, if_pos (show (l.length : Int) = 0 by omega)]
        exact Gets.bind (ref_Sum64 _ (by show 0 ≤ 1000000000000000; omega)) (Gets.pure _)
      · simp only [attest_root.f, if_pos (show (l.length : Int) = 0 by omega)]
        exact Gets.of (by rw [purl_Sum64_is _ (by show 0 ≤ 9223372036854775807; omega)]; rfl)
    · rw [if_neg c0]
      by_cases c1 : l.length = 1
      · rw [if_pos c1]
        have hx : rdOf ByteArray.empty l 0 = l[0] := rdOf_get l 0 (by omega)
        refine ⟨Gets.succ ?_, Gets.succ ?_, by rw [hx]; exact hs.2 _ (List.getElem_mem _)⟩
        · simp only [provenderref8_root.f, if_neg (show ¬ (l.length : Int) = 0 by omega), if_pos (show (l.length : Int) = 1 by omega), if_pos (show (0 : Int) < (l.length : Int) by omega)]
          exact Gets.pure _
        · simp only [attest_root.f, if_neg (show ¬ (l.length : Int) = 0 by omega), if_pos (show (l.length : Int) = 1 by omega), if_pos (show (0 : Int) < (l.length : Int) by omega)]
          exact Gets.pure _
      · rw [if_neg c1]
        have hl0 := hs.1
        obtain ⟨h1, h2, h3, h4⟩ := half_list hs (by omega)
        obtain ⟨a1, a2, a3⟩ := ih (l.take (halfV l.length)) (by omega) (hs.take _)
        obtain ⟨b1, b2, b3⟩ := ih (l.drop (halfV l.length)) (by omega) (hs.drop _)
        have a4 : (rootF N (l.take (halfV l.length))).size ≤ 16 := Nat.le_of_eq (sumB_size a3)
        have b4 : (rootF N (l.drop (halfV l.length))).size ≤ 16 := Nat.le_of_eq (sumB_size b3)
        refine ⟨Gets.succ ?_, Gets.succ ?_, joinV_sum _ _⟩
        · simp only [provenderref8_root.f, if_neg (show ¬ (l.length : Int) = 0 by omega), if_neg (show ¬ (l.length : Int) = 1 by omega)]
          refine Gets.bind (ref_half_gets l.length (by omega)) ?_
          simp only [if_pos (show (0 : Int) ≤ ((halfV l.length : Nat) : Int) by omega), if_pos (show ((halfV l.length : Nat) : Int) ≤ (l.length : Int) by omega), Int.toNat_natCast]
          exact Gets.bind a1 (Gets.bind b1 (Gets.bind (ref_join _ _ a4 b4) (Gets.pure _)))
        · simp only [attest_root.f, if_neg (show ¬ (l.length : Int) = 0 by omega), if_neg (show ¬ (l.length : Int) = 1 by omega)]
          refine Gets.bind (attest_half_gets l.length (by omega)) ?_
          simp only [if_pos (show (0 : Int) ≤ ((halfV l.length : Nat) : Int) by omega), if_pos (show ((halfV l.length : Nat) : Int) ≤ (l.length : Int) by omega), Int.toNat_natCast]
          exact Gets.bind a2 (Gets.bind b2 (Gets.of (by rw [attest_joined_is _ _ a4 b4]; rfl)))
theorem incF_length (N : Nat) : ∀ (l : List ByteArray) (i : Nat), (incF N l i).length ≤ N := by
  induction N with
  | zero => intro l i; simp [incF]
  | succ N ih =>
    intro l i
    unfold incF
    split
    · simp
    · split
      · rw [List.length_append]; have := ih (l.take (halfV l.length)) i; simp only [List.length_cons, List.length_nil]; omega
      · rw [List.length_append]; have := ih (l.drop (halfV l.length)) (i - halfV l.length); simp only [List.length_cons, List.length_nil]; omega
theorem conF_length (N : Nat) : ∀ (l : List ByteArray) (m : Nat) (b : Bool), (conF N l m b).length ≤ N := by
  induction N with
  | zero => intro l m b; simp [conF]
  | succ N ih =>
    intro l m b
    unfold conF
    split
    · split
      · simp
      · simp
    · split
      · rw [List.length_append]; have := ih (l.take (halfV l.length)) m b; simp only [List.length_cons, List.length_nil]; omega
      · rw [List.length_append]; have := ih (l.drop (halfV l.length)) (m - halfV l.length) false; simp only [List.length_cons, List.length_nil]; omega
theorem inc_gets (N : Nat) (hN : N ≤ 1048577) : ∀ (l : List ByteArray) (i : Nat), l.length < N → i < l.length → Sums l → Gets (fun k => provenderref8_include.f k l i) (incF N l i) ∧ Gets (fun k => attest_include.f k l i) (incF N l i) := by
  induction N with
  | zero => intro l i h; omega
  | succ N ih =>
    intro l i hl hi hs
    have ih := ih (by omega)
    unfold incF
    by_cases c1 : l.length = 1
    · rw [if_pos c1]
      refine ⟨Gets.succ ?_, Gets.succ ?_⟩
      · simp only [provenderref8_include.f, if_pos (show (l.length : Int) = 1 by omega)]; exact Gets.pure _
      · simp only [attest_include.f, if_pos (show (l.length : Int) = 1 by omega)]; exact Gets.pure _
    · rw [if_neg c1]
      have hl0 := hs.1
      obtain ⟨h1, h2, h3, h4⟩ := half_list hs (by omega)
      obtain ⟨a1, a2, a3⟩ := root_gets N (l.take (halfV l.length)) (by omega) (hs.take _)
      obtain ⟨b1, b2, b3⟩ := root_gets N (l.drop (halfV l.length)) (by omega) (hs.drop _)
      by_cases ci : i < halfV l.length
      · rw [if_pos ci]
        obtain ⟨g1, g2⟩ := ih (l.take (halfV l.length)) i (by omega) (by omega) (hs.take _)
        have gl := incF_length N (l.take (halfV l.length)) i
        refine ⟨Gets.succ ?_, Gets.succ ?_⟩
        · simp only [provenderref8_include.f, if_neg (show ¬ (l.length : Int) = 1 by omega)]
          refine Gets.bind (ref_half_gets l.length (by omega)) ?_
          simp only [if_pos (show (i : Int) < ((halfV l.length : Nat) : Int) by omega), if_pos (show (0 : Int) ≤ ((halfV l.length : Nat) : Int) by omega), if_pos (show ((halfV l.length : Nat) : Int) ≤ (l.length : Int) by omega), Int.toNat_natCast]
          refine Gets.bind g1 (Gets.bind b1 ?_)
          simp only [if_pos (show (incF N (l.take (halfV l.length)) i).length < 8796093022208 by omega)]
          exact Gets.pure _
        · simp only [attest_include.f, if_neg (show ¬ (l.length : Int) = 1 by omega)]
          refine Gets.bind (attest_half_gets l.length (by omega)) ?_
          simp only [if_pos (show (i : Int) < ((halfV l.length : Nat) : Int) by omega), if_pos (show (0 : Int) ≤ ((halfV l.length : Nat) : Int) by omega), if_pos (show ((halfV l.length : Nat) : Int) ≤ (l.length : Int) by omega), Int.toNat_natCast]
          refine Gets.bind g2 (Gets.bind b2 ?_)
          simp only [if_pos (show (incF N (l.take (halfV l.length)) i).length < 8796093022208 by omega)]
          exact Gets.pure _
      · rw [if_neg ci]
        obtain ⟨g1, g2⟩ := ih (l.drop (halfV l.length)) (i - halfV l.length) (by omega) (by omega) (hs.drop _)
        have gl := incF_length N (l.drop (halfV l.length)) (i - halfV l.length)
        have w1 := wrap_sub i (halfV l.length) (by omega) (by omega)
        refine ⟨Gets.succ ?_, Gets.succ ?_⟩
        · simp only [provenderref8_include.f, if_neg (show ¬ (l.length : Int) = 1 by omega)]
          refine Gets.bind (ref_half_gets l.length (by omega)) ?_
          simp only [if_neg (show ¬ (i : Int) < ((halfV l.length : Nat) : Int) by omega), if_pos (show (0 : Int) ≤ ((halfV l.length : Nat) : Int) by omega), if_pos (show ((halfV l.length : Nat) : Int) ≤ (l.length : Int) by omega), Int.toNat_natCast, w1]
          refine Gets.bind g1 (Gets.bind a1 ?_)
          simp only [if_pos (show (incF N (l.drop (halfV l.length)) (i - halfV l.length)).length < 8796093022208 by omega)]
          exact Gets.pure _
        · simp only [attest_include.f, if_neg (show ¬ (l.length : Int) = 1 by omega)]
          refine Gets.bind (attest_half_gets l.length (by omega)) ?_
          simp only [if_neg (show ¬ (i : Int) < ((halfV l.length : Nat) : Int) by omega), if_pos (show (0 : Int) ≤ ((halfV l.length : Nat) : Int) by omega), if_pos (show ((halfV l.length : Nat) : Int) ≤ (l.length : Int) by omega), Int.toNat_natCast, w1]
          refine Gets.bind g2 (Gets.bind a2 ?_)
          simp only [if_pos (show (incF N (l.drop (halfV l.length)) (i - halfV l.length)).length < 8796093022208 by omega)]
          exact Gets.pure _
theorem con_gets (N : Nat) (hN : N ≤ 1048577) : ∀ (l : List ByteArray) (m : Nat) (b : Bool), l.length < N → 1 ≤ m → m ≤ l.length → Sums l → Gets (fun k => provenderref8_consist.f k l m b) (conF N l m b) ∧ Gets (fun k => attest_consist.f k l m b) (conF N l m b) := by
  induction N with
  | zero => intro l m b h; omega
  | succ N ih =>
    intro l m b hl hm1 hm hs
    have ih := ih (by omega)
    have hroot := root_gets (N + 1) l hl hs
    unfold conF
    by_cases c1 : m = l.length
    · have c1' : (m : Int) = (l.length : Int) := by omega
      rw [if_pos c1]
      cases b with
      | true =>
        refine ⟨Gets.succ ?_, Gets.succ ?_⟩
        · simp only [provenderref8_consist.f, if_pos c1', if_true]; exact Gets.pure _
        · simp only [attest_consist.f, if_pos c1', if_true]; exact Gets.pure _
      | false =>
        refine ⟨Gets.succ ?_, Gets.succ ?_⟩
        · simp only [provenderref8_consist.f, if_pos c1', Bool.false_eq_true, if_false]; exact Gets.bind hroot.1 (Gets.pure _)
        · simp only [attest_consist.f, if_pos c1', Bool.false_eq_true, if_false]; exact Gets.bind hroot.2.1 (Gets.pure _)
    · have c1' : ¬ (m : Int) = (l.length : Int) := by omega
      rw [if_neg c1]
      have hl0 := hs.1
      obtain ⟨h1, h2, h3, h4⟩ := half_list hs (by omega)
      obtain ⟨a1, a2, a3⟩ := root_gets N (l.take (halfV l.length)) (by omega) (hs.take _)
      obtain ⟨b1, b2, b3⟩ := root_gets N (l.drop (halfV l.length)) (by omega) (hs.drop _)
      by_cases ci : m ≤ halfV l.length
      · have ci' : (m : Int) ≤ ((halfV l.length : Nat) : Int) := by omega
        rw [if_pos ci]
        obtain ⟨g1, g2⟩ := ih (l.take (halfV l.length)) m b (by omega) (by omega) (by omega) (hs.take _)
        have gl := conF_length N (l.take (halfV l.length)) m b
        refine ⟨Gets.succ ?_, Gets.succ ?_⟩
        · simp only [provenderref8_consist.f, if_neg c1']
          refine Gets.bind (ref_half_gets l.length (by omega)) ?_
          simp only [if_pos ci', if_pos (show (0 : Int) ≤ ((halfV l.length : Nat) : Int) by omega), if_pos (show ((halfV l.length : Nat) : Int) ≤ (l.length : Int) by omega), Int.toNat_natCast]
          refine Gets.bind g1 (Gets.bind b1 ?_)
          simp only [if_pos (show (conF N (l.take (halfV l.length)) m b).length < 8796093022208 by omega)]
          exact Gets.pure _
        · simp only [attest_consist.f, if_neg c1']
          refine Gets.bind (attest_half_gets l.length (by omega)) ?_
          simp only [if_pos ci', if_pos (show (0 : Int) ≤ ((halfV l.length : Nat) : Int) by omega), if_pos (show ((halfV l.length : Nat) : Int) ≤ (l.length : Int) by omega), Int.toNat_natCast]
          refine Gets.bind g2 (Gets.bind b2 ?_)
          simp only [if_pos (show (conF N (l.take (halfV l.length)) m b).length < 8796093022208 by omega)]
          exact Gets.pure _
      · have ci' : ¬ (m : Int) ≤ ((halfV l.length : Nat) : Int) := by omega
        rw [if_neg ci]
        obtain ⟨g1, g2⟩ := ih (l.drop (halfV l.length)) (m - halfV l.length) false (by omega) (by omega) (by omega) (hs.drop _)
        have gl := conF_length N (l.drop (halfV l.length)) (m - halfV l.length) false
        have w1 := wrap_sub m (halfV l.length) (by omega) (by omega)
        refine ⟨Gets.succ ?_, Gets.succ ?_⟩
        · simp only [provenderref8_consist.f, if_neg c1']
          refine Gets.bind (ref_half_gets l.length (by omega)) ?_
          simp only [if_neg ci', if_pos (show (0 : Int) ≤ ((halfV l.length : Nat) : Int) by omega), if_pos (show ((halfV l.length : Nat) : Int) ≤ (l.length : Int) by omega), Int.toNat_natCast, w1]
          refine Gets.bind g1 (Gets.bind a1 ?_)
          simp only [if_pos (show (conF N (l.drop (halfV l.length)) (m - halfV l.length) false).length < 8796093022208 by omega)]
          exact Gets.pure _
        · simp only [attest_consist.f, if_neg c1']
          refine Gets.bind (attest_half_gets l.length (by omega)) ?_
          simp only [if_neg ci', if_pos (show (0 : Int) ≤ ((halfV l.length : Nat) : Int) by omega), if_pos (show ((halfV l.length : Nat) : Int) ≤ (l.length : Int) by omega), Int.toNat_natCast, w1]
          refine Gets.bind g2 (Gets.bind a2 ?_)
          simp only [if_pos (show (conF N (l.drop (halfV l.length)) (m - halfV l.length) false).length < 8796093022208 by omega)]
          exact Gets.pure _
end Go.Proofs.YtdmmglihkdkeaaaDoor.Pr
