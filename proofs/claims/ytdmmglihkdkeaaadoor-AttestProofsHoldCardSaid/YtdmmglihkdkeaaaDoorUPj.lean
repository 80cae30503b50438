/- What a tree's own proofs prove: checked, they give the tree's root. Conditions: lists of at most 4096 sums. -/
import Derived.Test.YtdmmglihkdkeaaaDoorUPi
namespace Go.Proofs.YtdmmglihkdkeaaaDoor.Pr
open Go.RowKit Go.Proofs.YtdmmglihkdkeaaaDoorW.PrintWords Go.Proofs.YtdmmglihkdkeaaaDoorW.PrintLast Go.Proofs.YtdmmglihkdkeaaaDoorW.PrintMore
theorem halfL_pow (n : Nat) (f : Nat) : ∀ (x j : Nat), x = 2 ^ j → ∃ j', halfL f n x = 2 ^ j' := by
  induction f with
  | zero => intro x j h; exact ⟨j, by simpa [halfL] using h⟩
  | succ f ih =>
    intro x j h
    unfold halfL
    split
    · exact ih (2 * x) (j + 1) (by rw [h, Nat.pow_succ]; omega)
    · exact ⟨j, h⟩
theorem halfL_ge (n : Nat) (f : Nat) : ∀ (x : Nat), n ≤ x * 2 ^ f → n ≤ 2 * halfL f n x := by
  induction f with
  | zero => intro x h; unfold halfL; omega
  | succ f ih =>
    intro x h
    unfold halfL
    split
    · exact ih (2 * x) (by rw [Nat.pow_succ] at h; have : x * (2 ^ f * 2) = 2 * x * 2 ^ f := by rw [Nat.mul_comm (2 ^ f) 2, ← Nat.mul_assoc, Nat.mul_comm x 2]
                           omega)
    · omega
theorem half_pow (n : Nat) (hn : n ≤ 1048576) (h2 : 2 ≤ n) : ∃ j, halfV n = 2 ^ j ∧ 2 ^ j < n ∧ n ≤ 2 ^ (j + 1) := by
  obtain ⟨j, hj⟩ := halfL_pow n 62 1 0 rfl
  have h1 := halfL_ge n 62 1 (by omega)
  have h3 := (half_facts n (by omega)).2 h2
  have e : halfV n = 2 ^ j := hj
  refine ⟨j, e, by omega, ?_⟩
  rw [Nat.pow_succ, ← hj]
  omega
theorem half_one (j m : Nat) (hm : m ≤ 1048576) (h1 : 2 ^ j < m) (h2 : m ≤ 2 ^ (j + 1)) : halfV m = 2 ^ j := by
  have hp : 1 ≤ 2 ^ j := Nat.one_le_two_pow
  obtain ⟨i, e, h3, h4⟩ := half_pow m hm (by omega)
  have a1 : j < i + 1 := (Nat.pow_lt_pow_iff_right (by omega : 1 < 2)).1 (by omega)
  have a2 : i < j + 1 := (Nat.pow_lt_pow_iff_right (by omega : 1 < 2)).1 (by omega)
  rw [e, show i = j by omega]
theorem half_depth (d n : Nat) (hn : n ≤ 1048576) (h2 : 2 ≤ n) (h : n ≤ 2 ^ (d + 1)) : halfV n ≤ 2 ^ d ∧ n - halfV n ≤ 2 ^ d := by
  obtain ⟨j, e, h3, h4⟩ := half_pow n hn h2
  have a1 : j < d + 1 := (Nat.pow_lt_pow_iff_right (by omega : 1 < 2)).1 (by omega)
  have a2 : 2 ^ j ≤ 2 ^ d := Nat.pow_le_pow_right (by omega) (by omega)
  rw [Nat.pow_succ] at h4
  omega
def R (l : List ByteArray) : ByteArray := rootF (l.length + 1) l
theorem rootF_R (N : Nat) : ∀ (l : List ByteArray) (N' : Nat), l.length < N → l.length < N' → Sums l → rootF N l = rootF N' l := by
  induction N with
  | zero => intro l N' h; omega
  | succ N ih =>
    intro l N' h1 h2 hs
    obtain ⟨N', rfl⟩ : ∃ m, N' = m + 1 := ⟨N' - 1, by omega⟩
    unfold rootF
    by_cases c0 : l.length = 0
    · rw [if_pos c0, if_pos c0]
    · by_cases c1 : l.length = 1
      · rw [if_neg c0, if_pos c1, if_neg c0, if_pos c1]
      · obtain ⟨g1, g2, g3, g4⟩ := half_list hs (by omega)
        rw [if_neg c0, if_neg c1, if_neg c0, if_neg c1, ih _ N' (by omega) (by omega) (hs.take _), ih _ N' (by omega) (by omega) (hs.drop _)]
theorem R_is {l : List ByteArray} {N : Nat} (h : l.length < N) (hs : Sums l) : rootF N l = R l := rootF_R N l _ h (by omega) hs
theorem R_one {l : List ByteArray} (h : l.length = 1) : R l = l[0]'(by omega) := by
  unfold R rootF
  rw [if_neg (by omega), if_pos h]
  exact rdOf_get l 0 (by omega)
theorem R_step {l : List ByteArray} (hs : Sums l) (h : 2 ≤ l.length) : R l = joinV (R (l.take (halfV l.length))) (R (l.drop (halfV l.length))) := by
  obtain ⟨g1, g2, g3, g4⟩ := half_list hs h
  show rootF (l.length + 1) l = _
  unfold rootF
  rw [if_neg (by omega), if_neg (by omega), R_is (by omega) (hs.take _), R_is (by omega) (hs.drop _)]
theorem R_sum {l : List ByteArray} (hs : Sums l) : sumB (R l) = true := (root_gets (l.length + 1) l (by omega) hs).2.2
theorem inc_depth (N : Nat) : ∀ (d : Nat) (l : List ByteArray) (i : Nat), l.length < N → i < l.length → Sums l → l.length ≤ 2 ^ d → (incF N l i).length ≤ d := by
  induction N with
  | zero => intro d l i h; omega
  | succ N ih =>
    intro d l i h hi hs hd
    have hl0 := hs.1
    unfold incF
    by_cases c1 : l.length = 1
    · rw [if_pos c1]; simp
    · rw [if_neg c1]
      obtain ⟨g1, g2, g3, g4⟩ := half_list hs (by omega)
      cases d with
      | zero => rw [Nat.pow_zero] at hd; omega
      | succ d =>
        obtain ⟨k1, k2⟩ := half_depth d l.length hl0 (by omega) hd
        by_cases ci : i < halfV l.length
        · rw [if_pos ci, List.length_append]
          have := ih d (l.take (halfV l.length)) i (by omega) (by omega) (hs.take _) (by omega)
          simp only [List.length_cons, List.length_nil]
          omega
        · rw [if_neg ci, List.length_append]
          have := ih d (l.drop (halfV l.length)) (i - halfV l.length) (by omega) (by omega) (hs.drop _) (by omega)
          simp only [List.length_cons, List.length_nil]
          omega
theorem con_depth (N : Nat) : ∀ (d : Nat) (l : List ByteArray) (m : Nat) (b : Bool), l.length < N → 1 ≤ m → m ≤ l.length → Sums l → l.length ≤ 2 ^ d → (conF N l m b).length ≤ d + 1 := by
  induction N with
  | zero => intro d l m b h; omega
  | succ N ih =>
    intro d l m b h hm1 hm hs hd
    have hl0 := hs.1
    unfold conF
    by_cases c1 : m = l.length
    · rw [if_pos c1]; split <;> simp
    · rw [if_neg c1]
      obtain ⟨g1, g2, g3, g4⟩ := half_list hs (by omega)
      cases d with
      | zero => rw [Nat.pow_zero] at hd; omega
      | succ d =>
        obtain ⟨k1, k2⟩ := half_depth d l.length hl0 (by omega) hd
        by_cases ci : m ≤ halfV l.length
        · rw [if_pos ci, List.length_append]
          have := ih d (l.take (halfV l.length)) m b (by omega) (by omega) (by omega) (hs.take _) (by omega)
          simp only [List.length_cons, List.length_nil]
          omega
        · rw [if_neg ci, List.length_append]
          have := ih d (l.drop (halfV l.length)) (m - halfV l.length) false (by omega) (by omega) (by omega) (hs.drop _) (by omega)
          simp only [List.length_cons, List.length_nil]
          omega
theorem inc_sums (N : Nat) : ∀ (l : List ByteArray) (i : Nat), l.length < N → i < l.length → Sums l → ∀ x ∈ incF N l i, sumB x = true := by
  induction N with
  | zero => intro l i h; omega
  | succ N ih =>
    intro l i h hi hs x
    unfold incF
    by_cases c1 : l.length = 1
    · rw [if_pos c1]; intro hx; cases hx
    · rw [if_neg c1]
      obtain ⟨g1, g2, g3, g4⟩ := half_list hs (by omega)
      by_cases ci : i < halfV l.length
      · rw [if_pos ci, List.mem_append]
        rintro (hx | hx)
        · exact ih (l.take (halfV l.length)) i (by omega) (by omega) (hs.take _) x hx
        · rw [List.mem_singleton.1 hx]; exact (root_gets N _ (by omega) (hs.drop _)).2.2
      · rw [if_neg ci, List.mem_append]
        rintro (hx | hx)
        · exact ih (l.drop (halfV l.length)) (i - halfV l.length) (by omega) (by omega) (hs.drop _) x hx
        · rw [List.mem_singleton.1 hx]; exact (root_gets N _ (by omega) (hs.take _)).2.2
theorem con_sums (N : Nat) : ∀ (l : List ByteArray) (m : Nat) (b : Bool), l.length < N → 1 ≤ m → m ≤ l.length → Sums l → ∀ x ∈ conF N l m b, sumB x = true := by
  induction N with
  | zero => intro l m b h; omega
  | succ N ih =>
    intro l m b h hm1 hm hs x
    unfold conF
    by_cases c1 : m = l.length
    · rw [if_pos c1]
      split
      · intro hx; cases hx
      · intro hx; rw [List.mem_singleton.1 hx]; exact (root_gets (N + 1) l h hs).2.2
    · rw [if_neg c1]
      obtain ⟨g1, g2, g3, g4⟩ := half_list hs (by omega)
      by_cases ci : m ≤ halfV l.length
      · rw [if_pos ci, List.mem_append]
        rintro (hx | hx)
        · exact ih (l.take (halfV l.length)) m b (by omega) (by omega) (by omega) (hs.take _) x hx
        · rw [List.mem_singleton.1 hx]; exact (root_gets N _ (by omega) (hs.drop _)).2.2
      · rw [if_neg ci, List.mem_append]
        rintro (hx | hx)
        · exact ih (l.drop (halfV l.length)) (m - halfV l.length) false (by omega) (by omega) (by omega) (hs.drop _) x hx
        · rw [List.mem_singleton.1 hx]; exact (root_gets N _ (by omega) (hs.take _)).2.2
theorem inc_value (N : Nat) (hN : N ≤ 1048577) : ∀ (l : List ByteArray) (i : Nat) (x : ByteArray), l[i]? = some x → l.length < N → Sums l → Gets (fun k => attest_included.f k x i (l.length : Int) (incF N l i)) (R l, true) := by
  induction N with
  | zero => intro l i x hi h; omega
  | succ N ih =>
    intro l i x hx0 h hs
    have hi : i < l.length := (List.getElem?_eq_some_iff.1 hx0).1
    have ih := ih (by omega)
    have hl0 := hs.1
    by_cases c1 : l.length = 1
    · have hi0 : i = 0 := by omega
      subst hi0
      have e : incF (N + 1) l 0 = [] := by unfold incF; rw [if_pos c1]
      rw [e]
      refine Gets.succ ?_
      simp only [attest_included.f, if_pos (show (l.length : Int) = 1 by omega), List.length_nil]
      refine Gets.succ ?_
      simp only [attest_included.j0, if_true, if_pos (show (l.length : Int) = 1 by omega)]
      have hx1 : l[0]'(by omega) = x := by simpa [List.getElem?_eq_getElem hi] using hx0
      exact Gets.of (by rw [decide_eq_true wrap_none, R_one c1, hx1])
    · obtain ⟨g1, g2, g3, g4⟩ := half_list hs (by omega)
      have hR := R_step hs (by omega)
      have hc : ¬ (l.length : Int) = 1 := by omega
      by_cases ci : i < halfV l.length
      · have e : incF (N + 1) l i = incF N (l.take (halfV l.length)) i ++ [R (l.drop (halfV l.length))] := by
          conv => lhs; unfold incF
          rw [if_neg c1, if_pos ci, R_is (by omega) (hs.drop _)]
        have gl := incF_length N (l.take (halfV l.length)) i
        have hr := ih (l.take (halfV l.length)) i x (by rw [List.getElem?_take_of_lt ci]; exact hx0) (by omega) (hs.take _)
        rw [g3] at hr
        rw [e]
        generalize incF N (l.take (halfV l.length)) i = A at *
        have hlen : (A ++ [R (l.drop (halfV l.length))]).length = A.length + 1 := by simp
        have hw : wrap64 (((A ++ [R (l.drop (halfV l.length))]).length : Int) - 1) = ((A.length : Nat) : Int) := by rw [hlen]; unfold wrap64; omega
        have hx : rdOf ByteArray.empty (A ++ [R (l.drop (halfV l.length))]) (A.length : Int) = R (l.drop (halfV l.length)) := by
          rw [rdOf_get _ _ (by omega)]; simp
        have ht : (A ++ [R (l.drop (halfV l.length))]).take A.length = A := by simp
        refine Gets.succ ?_
        simp only [attest_included.f, if_neg hc, hw]
        rw [decide_eq_false (show ¬ ((A.length : Nat) : Int) < 0 by omega)]
        refine Gets.succ ?_
        simp only [attest_included.j0, Bool.false_eq_true, if_false, if_pos (show (0 : Int) ≤ ((A.length : Nat) : Int) by omega), if_pos (show ((A.length : Nat) : Int) < ((A ++ [R (l.drop (halfV l.length))]).length : Int) by omega), if_pos (show ((A.length : Nat) : Int) ≤ ((A ++ [R (l.drop (halfV l.length))]).length : Int) by omega), Int.toNat_natCast, hx, ht]
        refine Gets.bind (attest_half_gets l.length (by omega)) ?_
        simp only [if_pos (show (i : Int) < ((halfV l.length : Nat) : Int) by omega)]
        refine Gets.bind hr ?_
        simp only [attest_joined_is _ _ (Nat.le_of_eq (sumB_size (R_sum (hs.take (halfV l.length))))) (Nat.le_of_eq (sumB_size (R_sum (hs.drop (halfV l.length))))), Option.bind_some]
        exact Gets.of (by rw [← hR])
      · have e : incF (N + 1) l i = incF N (l.drop (halfV l.length)) (i - halfV l.length) ++ [R (l.take (halfV l.length))] := by
          conv => lhs; unfold incF
          rw [if_neg c1, if_neg ci, R_is (by omega) (hs.take _)]
        have gl := incF_length N (l.drop (halfV l.length)) (i - halfV l.length)
        have hr := ih (l.drop (halfV l.length)) (i - halfV l.length) x (by rw [List.getElem?_drop, show halfV l.length + (i - halfV l.length) = i by omega]; exact hx0) (by omega) (hs.drop _)
        rw [g4] at hr
        have w1 := wrap_sub i (halfV l.length) (by omega) (by omega)
        have w2 := wrap_sub l.length (halfV l.length) (by omega) (by omega)
        rw [e]
        generalize incF N (l.drop (halfV l.length)) (i - halfV l.length) = A at *
        have hlen : (A ++ [R (l.take (halfV l.length))]).length = A.length + 1 := by simp
        have hw : wrap64 (((A ++ [R (l.take (halfV l.length))]).length : Int) - 1) = ((A.length : Nat) : Int) := by rw [hlen]; unfold wrap64; omega
        have hx : rdOf ByteArray.empty (A ++ [R (l.take (halfV l.length))]) (A.length : Int) = R (l.take (halfV l.length)) := by
          rw [rdOf_get _ _ (by omega)]; simp
        have ht : (A ++ [R (l.take (halfV l.length))]).take A.length = A := by simp
        refine Gets.succ ?_
        simp only [attest_included.f, if_neg hc, hw]
        rw [decide_eq_false (show ¬ ((A.length : Nat) : Int) < 0 by omega)]
        refine Gets.succ ?_
        simp only [attest_included.j0, Bool.false_eq_true, if_false, if_pos (show (0 : Int) ≤ ((A.length : Nat) : Int) by omega), if_pos (show ((A.length : Nat) : Int) < ((A ++ [R (l.take (halfV l.length))]).length : Int) by omega), if_pos (show ((A.length : Nat) : Int) ≤ ((A ++ [R (l.take (halfV l.length))]).length : Int) by omega), Int.toNat_natCast, hx, ht]
        refine Gets.bind (attest_half_gets l.length (by omega)) ?_
        simp only [if_neg (show ¬ (i : Int) < ((halfV l.length : Nat) : Int) by omega), w1, w2]
        refine Gets.bind hr ?_
        simp only [attest_joined_is _ _ (Nat.le_of_eq (sumB_size (R_sum (hs.take (halfV l.length))))) (Nat.le_of_eq (sumB_size (R_sum (hs.drop (halfV l.length))))), Option.bind_some]
        exact Gets.of (by rw [← hR])
end Go.Proofs.YtdmmglihkdkeaaaDoor.Pr
