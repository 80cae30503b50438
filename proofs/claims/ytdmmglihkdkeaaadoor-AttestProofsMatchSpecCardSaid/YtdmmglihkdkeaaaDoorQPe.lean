/- What the trees of chapter 8 compute: halves, joined sums, roots and proofs, in plain Lean. Conditions: lists of at most 4096 sums. -/
import Derived.Test.YtdmmglihkdkeaaaDoorQPa
import Derived.Test.YtdmmglihkdkeaaaDoorQPrx0
import Derived.Test.YtdmmglihkdkeaaaDoorQPrx5
import Derived.Test.YtdmmglihkdkeaaaDoorQPrx7
import Derived.Test.YtdmmglihkdkeaaaDoorQPrx9
import Derived.Test.YtdmmglihkdkeaaaDoorQPrx10
import Derived.Test.YtdmmglihkdkeaaaDoorQPrx19
import Derived.Test.YtdmmglihkdkeaaaDoorQPrx20
import Derived.Test.YtdmmglihkdkeaaaDoorQPrx21
import Derived.Test.YtdmmglihkdkeaaaDoorQPrx22
import Derived.Test.YtdmmglihkdkeaaaDoorQPrx24
namespace Go.Proofs.YtdmmglihkdkeaaaDoor.Pr
open Go.RowKit Go.Proofs.YtdmmglihkdkeaaaDoorW.PrintWords Go.Proofs.YtdmmglihkdkeaaaDoorW.PrintLast Go.Proofs.YtdmmglihkdkeaaaDoorW.PrintMore
def halfL : Nat → Nat → Nat → Nat
  | 0, _, x => x
  | f + 1, n, x => if 2 * x < n then halfL f n (2 * x) else x
def halfV (n : Nat) : Nat := halfL 62 n 1
theorem half_loop (n : Nat) (hn : n ≤ 1152921504606846976) (f : Nat) : ∀ (k x : Nat), 1 ≤ x → x ≤ 1152921504606846976 → n ≤ x * 2 ^ f → f < k →
    attest_half.l0 k n x = some ((halfL f n x : Nat) : Int) ∧ provenderref8_half.l0 k n x = some ((halfL f n x : Nat) : Int) ∧ 1 ≤ halfL f n x ∧ (x < n → halfL f n x < n) := by
  induction f with
  | zero =>
    intro k x h1 hx hnx hk
    obtain ⟨k, rfl⟩ : ∃ m, k = m + 1 := ⟨k - 1, by omega⟩
    have hc : ¬ wrap64 (2 * (x : Int)) < (n : Int) := by
      unfold wrap64
      omega
    simp only [attest_half.l0, provenderref8_half.l0, if_neg hc, halfL]
    exact ⟨trivial, trivial, h1, fun h => h⟩
  | succ f ih =>
    intro k x h1 hx hnx hk
    obtain ⟨k, rfl⟩ : ∃ m, k = m + 1 := ⟨k - 1, by omega⟩
    simp only [attest_half.l0, provenderref8_half.l0, halfL]
    by_cases c : 2 * x < n
    · have e1 : wrap64 (2 * (x : Int)) = ((2 * x : Nat) : Int) := by unfold wrap64; omega
      have e2 : wrap64 ((x : Int) * 2) = ((2 * x : Nat) : Int) := by unfold wrap64; omega
      rw [e1, e2, if_pos c, if_pos (by omega), if_pos (by omega)]
      have h := ih k (2 * x) (by omega) (by omega) (by rw [Nat.pow_succ] at hnx; have : x * (2 ^ f * 2) = 2 * x * 2 ^ f := by rw [Nat.mul_comm (2 ^ f) 2, ← Nat.mul_assoc, Nat.mul_comm x 2]
                                                       omega) (by omega)
      exact ⟨h.1, h.2.1, h.2.2.1, fun _ => h.2.2.2 c⟩
    · have hc : ¬ wrap64 (2 * (x : Int)) < (n : Int) := by
        unfold wrap64
        omega
      rw [if_neg hc, if_neg hc, if_neg c]
      exact ⟨rfl, rfl, h1, fun h => h⟩
theorem half_facts (n : Nat) (hn : n ≤ 1152921504606846976) : 1 ≤ halfV n ∧ (2 ≤ n → halfV n < n) := by
  have h := half_loop n hn 62 63 1 (by omega) (by omega) (by omega) (by omega)
  exact ⟨h.2.2.1, fun h2 => h.2.2.2 (by omega)⟩
theorem attest_half_gets (n : Nat) (hn : n ≤ 1152921504606846976) : Gets (fun k => attest_half.f k n) ((halfV n : Nat) : Int) :=
  ⟨63, fun k hk => (half_loop n hn 62 k 1 (by omega) (by omega) (by omega) (by omega)).1⟩
theorem ref_half_gets (n : Nat) (hn : n ≤ 1152921504606846976) : Gets (fun k => provenderref8_half.f k n) ((halfV n : Nat) : Int) :=
  ⟨63, fun k hk => (half_loop n hn 62 k 1 (by omega) (by omega) (by omega) (by omega)).2.1⟩
def oneT : ByteArray := ⟨#[1]⟩
def joinV (a b : ByteArray) : ByteArray := sumHex ((oneT ++ a) ++ b)
theorem ref_join (a b : ByteArray) (ha : a.size ≤ 16) (hb : b.size ≤ 16) : Gets (fun k => provenderref8_join.f k a b) (joinV a b) := by
  unfold provenderref8_join.f
  have e : ((⟨#[1]⟩ : ByteArray) ++ a).size = 1 + a.size := by rw [app_size]; rfl
  simp only [e, if_pos (show 1 + a.size ≤ 9223372036854775807 by omega), if_pos (show 1 + a.size + b.size ≤ 9223372036854775807 by omega)]
  exact Gets.bind (ref_Sum64 _ (by rw [app_size, e]; omega)) (Gets.pure _)
theorem attest_joined_is (a b : ByteArray) (ha : a.size ≤ 16) (hb : b.size ≤ 16) : attest_joined.f a b = some (joinV a b) := by
  unfold attest_joined.f
  have e : ((⟨#[1]⟩ : ByteArray) ++ a).size = 1 + a.size := by rw [app_size]; rfl
  rw [e, if_pos (show 1 + a.size ≤ 9223372036854775807 by omega), if_pos (show 1 + a.size + b.size ≤ 9223372036854775807 by omega), purl_Sum64_is _ (by rw [app_size, e]; omega)]
  rfl
theorem rdOf_get (l : List ByteArray) (i : Nat) (hi : i < l.length) : rdOf ByteArray.empty l (i : Int) = l[i] := by
  unfold rdOf
  simp [List.getD, hi]
/-- From place i on all are sums. -/
theorem sums_loop (l : List ByteArray) (hl : l.length ≤ 140737488355328) (hs : ∀ x ∈ l, x.size ≤ 140737488351232) (d : Nat) : ∀ (i : Nat), i + d = l.length →
    Gets (fun k => attest_checkSums.l0 k l (l.length : Int) i) (if (l.drop i).all sumB = true then 0 else 2) ∧ Gets (fun k => provenderref8_proofFault.l0 k l (l.length : Int) i) (if (l.drop i).all sumB = true then 0 else 2) ∧ Gets (fun k => provenderref8_leavesFault.l0 k l (l.length : Int) i) (if (l.drop i).all sumB = true then 0 else 2) := by
  induction d with
  | zero =>
    intro i hi
    have e : l.drop i = [] := List.drop_of_length_le (by omega)
    rw [e]
    refine ⟨Gets.succ ?_, Gets.succ ?_, Gets.succ ?_⟩
    · simp only [attest_checkSums.l0, if_neg (show ¬ (i : Int) < (l.length : Int) by omega)]; exact Gets.pure _
    · simp only [provenderref8_proofFault.l0, if_neg (show ¬ (i : Int) < (l.length : Int) by omega)]; exact Gets.pure _
    · simp only [provenderref8_leavesFault.l0, if_neg (show ¬ (i : Int) < (l.length : Int) by omega)]; exact Gets.pure _
  | succ d ih =>
    intro i hi
    have hi2 : i < l.length := by omega
    have h := ih (i + 1) (by omega)
    rw [List.drop_eq_getElem_cons hi2, List.all_cons]
    have hx : (l[i]).size ≤ 140737488351232 := hs _ (List.getElem_mem hi2)
    refine ⟨Gets.succ ?_, Gets.succ ?_, Gets.succ ?_⟩
    · simp only [attest_checkSums.l0, if_pos (show (i : Int) < (l.length : Int) by omega), if_pos (show (0 : Int) ≤ i by omega), rdOf_get l i hi2, wrap_succ i (by omega), attest_isSum.f, Option.bind_some]
      by_cases c : sumB l[i] = true
      · simp only [c, if_true, Bool.true_and]; exact h.1
      · simp only [Bool.not_eq_true _ ▸ c, Bool.false_and, Bool.false_eq_true, if_false]; exact Gets.pure _
    · simp only [provenderref8_proofFault.l0, if_pos (show (i : Int) < (l.length : Int) by omega), if_pos (show (0 : Int) ≤ i by omega), rdOf_get l i hi2, wrap_succ i (by omega)]
      refine Gets.bind (ref_isSum _ hx) ?_
      by_cases c : sumB l[i] = true
      · simp only [c, if_true, Bool.true_and]; exact h.2.1
      · simp only [Bool.not_eq_true _ ▸ c, Bool.false_and, Bool.false_eq_true, if_false]; exact Gets.pure _
    · simp only [provenderref8_leavesFault.l0, if_pos (show (i : Int) < (l.length : Int) by omega), if_pos (show (0 : Int) ≤ i by omega), rdOf_get l i hi2, wrap_succ i (by omega)]
      refine Gets.bind (ref_isSum _ hx) ?_
      by_cases c : sumB l[i] = true
      · simp only [c, if_true, Bool.true_and]; exact h.2.2
      · simp only [Bool.not_eq_true _ ▸ c, Bool.false_and, Bool.false_eq_true, if_false]; exact Gets.pure _
def sumsV (l : List ByteArray) (lim : Nat) : Int := if l.length > lim then 3 else if l.all sumB = true then 0 else 2
def Lst (l : List ByteArray) : Prop := l.length ≤ 140737488355328 ∧ ∀ x ∈ l, x.size ≤ 140737488351232
theorem attest_checkSums_gets {l : List ByteArray} (h : Lst l) (lim : Nat) : Gets (fun k => attest_checkSums.f k l lim) (sumsV l lim) := by
  have h2 := (sums_loop l h.1 h.2 l.length 0 (by omega)).1
  unfold attest_checkSums.f sumsV
  by_cases c : l.length > lim
  · simp only [if_pos c, if_pos (show (l.length : Int) > (lim : Int) by omega)]; exact Gets.pure _
  · simp only [if_neg c, if_neg (show ¬ (l.length : Int) > (lim : Int) by omega)]; exact h2
theorem ref_fault_j {l : List ByteArray} (h : Lst l) (b : Bool) : Gets (fun k => provenderref8_proofFault.j0 k l b) (if b = true then 9 else sumsV l 64) := by
  have h2 := (sums_loop l h.1 h.2 l.length 0 (by omega)).2.1
  refine Gets.succ ?_
  simp only [provenderref8_proofFault.j0]
  by_cases cb : b = true
  · simp only [if_pos cb]; exact Gets.pure _
  · simp only [if_neg cb]
    unfold sumsV
    by_cases c : l.length > 64
    · simp only [if_pos c, if_pos (show (l.length : Int) > 64 by omega)]; exact Gets.pure _
    · simp only [if_neg c, if_neg (show ¬ (l.length : Int) > 64 by omega)]; exact h2
def proofV (n : Int) (b : Bool) (l : List ByteArray) : Int := if n < 1 then 9 else if n > 1073741824 then 9 else if b = true then sumsV l 64 else 9
theorem ref_proofFault (n : Int) (b : Bool) {l : List ByteArray} (h : Lst l) : Gets (fun k => provenderref8_proofFault.f k n b l) (proofV n b l) := by
  unfold provenderref8_proofFault.f proofV
  by_cases c : n < 1
  · simp only [if_pos c]; exact ref_fault_j h true
  · simp only [if_neg c]
    by_cases c2 : n > 1073741824
    · simp only [if_pos c2]; exact ref_fault_j h true
    · simp only [if_neg c2]
      refine (ref_fault_j h (!b)).congr ?_
      cases b <;> rfl
theorem sumsV_zero {l : List ByteArray} {lim : Nat} (h : sumsV l lim = 0) : l.length ≤ lim ∧ ∀ x ∈ l, sumB x = true := by
  unfold sumsV at h
  by_cases c : l.length > lim
  · rw [if_pos c] at h; exact absurd h (by omega)
  · rw [if_neg c] at h
    by_cases c2 : l.all sumB = true
    · exact ⟨by omega, fun x hx => List.all_eq_true.1 c2 x hx⟩
    · rw [if_neg c2] at h; exact absurd h (by omega)
theorem joinV_sum (a b : ByteArray) : sumB (joinV a b) = true := sumHex_sum _
theorem joinV_size (a b : ByteArray) : (joinV a b).size ≤ 16 := Nat.le_of_eq (sumHex_size _)
theorem wrap_last (l : List ByteArray) (h : l ≠ []) (hl : l.length ≤ 140737488355328) : wrap64 ((l.length : Int) - 1) = ((l.length - 1 : Nat) : Int) := by
  have : 1 ≤ l.length := List.length_pos_iff.2 h
  unfold wrap64
  omega
theorem wrap_none : wrap64 (((0 : Nat) : Int) - 1) < 0 := by unfold wrap64; omega
theorem wrap_sub (a b : Nat) (h : b ≤ a) (ha : a ≤ 9223372036854775807) : wrap64 ((a : Int) - (b : Int)) = ((a - b : Nat) : Int) := by
  unfold wrap64
  omega
def IncP (r r' : ByteArray × Bool) : Prop := r.2 = r'.2 ∧ (r.2 = true → r.1 = r'.1 ∧ sumB r.1 = true) ∧ r.1.size ≤ 16 ∧ r'.1.size ≤ 16
theorem inc_both (N : Nat) : ∀ (n : Nat), n ≤ N → 1 ≤ n → n ≤ 1152921504606846976 → ∀ (a0 : ByteArray) (i : Nat) (l : List ByteArray), i < n → sumB a0 = true → l.length ≤ 140737488355328 → (∀ x ∈ l, sumB x = true) →
    ∃ r r', Gets (fun k => provenderref8_included.f k a0 i n l) r ∧ Gets (fun k => attest_included.f k a0 i n l) r' ∧ IncP r r' := by
  induction N with
  | zero => intro n h1 h2; omega
  | succ N ih =>
    intro n hN h1 hn a0 i l hi ha hl hs
    have ha16 := sumB_size ha
    by_cases c : n = 1
    · subst c
      refine ⟨(a0, ((l.length : Int) == 0)), (a0, decide (wrap64 ((l.length : Int) - 1) < 0)), ?_, ?_, ?_⟩
      · refine Gets.succ ?_
        simp only [provenderref8_included.f, show ((1 : Nat) : Int) = 1 from rfl, if_true]
        exact Gets.pure _
      · refine Gets.succ ?_
        simp only [attest_included.f, show ((1 : Nat) : Int) = 1 from rfl, if_true]
        refine Gets.succ ?_
        simp only [attest_included.j0, if_true]
        exact Gets.pure _
      · refine ⟨?_, fun _ => ⟨rfl, ha⟩, show a0.size ≤ 16 by omega, show a0.size ≤ 16 by omega⟩
        show ((l.length : Int) == 0) = decide (wrap64 ((l.length : Int) - 1) < 0)
        by_cases h0 : l = []
        · subst h0
          rw [show ([] : List ByteArray).length = 0 from rfl, decide_eq_true wrap_none]
          rfl
        · have hpos : 1 ≤ l.length := List.length_pos_iff.2 h0
          rw [wrap_last l h0 hl, decide_eq_false (by omega), beq_eq_false_iff_ne]
          omega
    · have hc : ¬ (n : Int) = 1 := by omega
      by_cases h0 : l = []
      · subst h0
        refine ⟨(⟨#[]⟩, false), (a0, false), ?_, ?_, ?_⟩
        · refine Gets.succ ?_
          simp only [provenderref8_included.f, if_neg hc, List.length_nil, show ((0 : Nat) : Int) = 0 from rfl, if_true]
          exact Gets.pure _
        · refine Gets.succ ?_
          simp only [attest_included.f, if_neg hc, List.length_nil]
          rw [decide_eq_true wrap_none]
          refine Gets.succ ?_
          simp only [attest_included.j0, if_true, if_neg hc]
          exact Gets.pure _
        · exact ⟨rfl, fun h => by simp at h, by show 0 ≤ 16; omega, by show a0.size ≤ 16; omega⟩
      · have hpos : 1 ≤ l.length := List.length_pos_iff.2 h0
        have hw := wrap_last l h0 hl
        obtain ⟨hh1, hh2⟩ := half_facts n hn
        have hh2 := hh2 (by omega)
        have hm : l.length - 1 < l.length := by omega
        have hlast := hs _ (List.getElem_mem hm)
        have hlast16 := sumB_size hlast
        have hts : ∀ x ∈ l.take (l.length - 1), sumB x = true := fun x hx => hs x (List.mem_of_mem_take hx)
        have htl : (l.take (l.length - 1)).length ≤ 140737488355328 := by rw [List.length_take]; omega
        by_cases ci : i < halfV n
        · obtain ⟨r, r', hr, hr', hp⟩ := ih (halfV n) (by omega) hh1 (by omega) a0 i (l.take (l.length - 1)) ci ha htl hts
          refine ⟨(joinV r.1 l[l.length - 1], r.2), (joinV r'.1 l[l.length - 1], r'.2), ?_, ?_, ?_⟩
          · refine Gets.succ ?_
            simp only [provenderref8_included.f, if_neg hc, hw, if_neg (show ¬ (l.length : Int) = 0 by omega), if_pos (show (0 : Int) ≤ ((l.length - 1 : Nat) : Int) by omega), if_pos (show ((l.length - 1 : Nat) : Int) < (l.length : Int) by omega), if_pos (show ((l.length - 1 : Nat) : Int) ≤ (l.length : Int) by omega), Int.toNat_natCast, rdOf_get l _ hm]
            refine Gets.bind (ref_half_gets n hn) ?_
            simp only [if_pos (show (i : Int) < ((halfV n : Nat) : Int) by omega)]
            exact Gets.bind hr (Gets.bind (ref_join _ _ hp.2.2.1 (by omega)) (Gets.pure _))
          · refine Gets.succ ?_
            simp only [attest_included.f, if_neg hc, hw]
            rw [decide_eq_false (show ¬ ((l.length - 1 : Nat) : Int) < 0 by omega)]
            refine Gets.succ ?_
            simp only [attest_included.j0, Bool.false_eq_true, if_false, if_pos (show (0 : Int) ≤ ((l.length - 1 : Nat) : Int) by omega), if_pos (show ((l.length - 1 : Nat) : Int) < (l.length : Int) by omega), if_pos (show ((l.length - 1 : Nat) : Int) ≤ (l.length : Int) by omega), Int.toNat_natCast, rdOf_get l _ hm]
            refine Gets.bind (attest_half_gets n hn) ?_
            simp only [if_pos (show (i : Int) < ((halfV n : Nat) : Int) by omega)]
            refine Gets.bind hr' ?_
            simp only [attest_joined_is _ _ hp.2.2.2 (show l[l.length - 1].size ≤ 16 by omega), Option.bind_some]
            exact Gets.pure _
          · exact ⟨hp.1, fun h => ⟨by show joinV r.1 _ = joinV r'.1 _; rw [(hp.2.1 h).1], joinV_sum _ _⟩, joinV_size _ _, joinV_size _ _⟩
        · obtain ⟨r, r', hr, hr', hp⟩ := ih (n - halfV n) (by omega) (by omega) (by omega) a0 (i - halfV n) (l.take (l.length - 1)) (by omega) ha htl hts
          have w1 := wrap_sub i (halfV n) (by omega) (by omega)
          have w2 := wrap_sub n (halfV n) (by omega) (by omega)
          refine ⟨(joinV l[l.length - 1] r.1, r.2), (joinV l[l.length - 1] r'.1, r'.2), ?_, ?_, ?_⟩
          · refine Gets.succ ?_
            simp only [provenderref8_included.f, if_neg hc, hw, if_neg (show ¬ (l.length : Int) = 0 by omega), if_pos (show (0 : Int) ≤ ((l.length - 1 : Nat) : Int) by omega), if_pos (show ((l.length - 1 : Nat) : Int) < (l.length : Int) by omega), if_pos (show ((l.length - 1 : Nat) : Int) ≤ (l.length : Int) by omega), Int.toNat_natCast, rdOf_get l _ hm]
            refine Gets.bind (ref_half_gets n hn) ?_
            simp only [if_neg (show ¬ (i : Int) < ((halfV n : Nat) : Int) by omega), w1, w2]
            exact Gets.bind hr (Gets.bind (ref_join _ _ (by omega) hp.2.2.1) (Gets.pure _))
          · refine Gets.succ ?_
            simp only [attest_included.f, if_neg hc, hw]
            rw [decide_eq_false (show ¬ ((l.length - 1 : Nat) : Int) < 0 by omega)]
            refine Gets.succ ?_
            simp only [attest_included.j0, Bool.false_eq_true, if_false, if_pos (show (0 : Int) ≤ ((l.length - 1 : Nat) : Int) by omega), if_pos (show ((l.length - 1 : Nat) : Int) < (l.length : Int) by omega), if_pos (show ((l.length - 1 : Nat) : Int) ≤ (l.length : Int) by omega), Int.toNat_natCast, rdOf_get l _ hm]
            refine Gets.bind (attest_half_gets n hn) ?_
            simp only [if_neg (show ¬ (i : Int) < ((halfV n : Nat) : Int) by omega), w1, w2]
            refine Gets.bind hr' ?_
            simp only [attest_joined_is _ _ (show l[l.length - 1].size ≤ 16 by omega) hp.2.2.2, Option.bind_some]
            exact Gets.pure _
          · exact ⟨hp.1, fun h => ⟨by show joinV _ r.1 = joinV _ r'.1; rw [(hp.2.1 h).1], joinV_sum _ _⟩, joinV_size _ _, joinV_size _ _⟩
end Go.Proofs.YtdmmglihkdkeaaaDoor.Pr
