/- The plain law of the trees' own proofs: what the law computes is true, from some number of rounds on. Conditions: the texts and lists are no longer than the form allows. -/
import Derived.Test.YtdmmglihkdkeaaaDoorUPj
import Derived.Test.YtdmmglihkdkeaaaDoorUPrx31
namespace Go.Proofs.YtdmmglihkdkeaaaDoor.Pr
open Go.RowKit Go.Proofs.YtdmmglihkdkeaaaDoorW.PrintWords Go.Proofs.YtdmmglihkdkeaaaDoorW.PrintLast Go.Proofs.YtdmmglihkdkeaaaDoorW.PrintMore
/-- A prefix that reaches beyond the half has the same half. -/
theorem R_prefix {l : List ByteArray} (hs : Sums l) (h2 : 2 ≤ l.length) (m : Nat) (h1 : halfV l.length < m) (hm : m ≤ l.length) : R (l.take m) = joinV (R (l.take (halfV l.length))) (R ((l.drop (halfV l.length)).take (m - halfV l.length))) := by
  obtain ⟨j, e, h3, h4⟩ := half_pow l.length hs.1 h2
  have hl : (l.take m).length = m := by rw [List.length_take]; omega
  have hh : halfV (l.take m).length = halfV l.length := by rw [hl, e]; exact half_one j m (by have := hs.1; omega) (by omega) (by omega)
  have g1 := (half_facts l.length (by have := hs.1; omega)).1
  rw [R_step (hs.take m) (by omega), hh, List.take_take, Nat.min_eq_left (by omega), List.drop_take]
theorem con_value (N : Nat) (hN : N ≤ 1048577) : ∀ (l : List ByteArray) (m : Nat) (b : Bool) (a0 : ByteArray), l.length < N → 1 ≤ m → m ≤ l.length → Sums l → (b = true → a0 = R (l.take m)) → Gets (fun k => attest_consistent.f k a0 m (l.length : Int) b (conF N l m b)) (R (l.take m), R l, true) := by
  induction N with
  | zero => intro l m b a0 h; omega
  | succ N ih =>
    intro l m b a0 h hm1 hm hs hb
    have ih := ih (by omega)
    have hl0 := hs.1
    by_cases c1 : m = l.length
    · have c1' : (m : Int) = (l.length : Int) := by omega
      have ht : l.take m = l := List.take_of_length_le (by omega)
      rw [ht] at hb ⊢
      cases b with
      | true =>
        have e : conF (N + 1) l m true = [] := by unfold conF; rw [if_pos c1, if_pos rfl]
        rw [e, hb rfl]
        refine Gets.succ ?_
        simp only [attest_consistent.f, if_pos c1', List.length_nil]
        refine Gets.succ ?_
        simp only [attest_consistent.j0, if_true]
        exact Gets.of (by rw [decide_eq_true wrap_none])
      | false =>
        have e : conF (N + 1) l m false = [R l] := by unfold conF; rw [if_pos c1, if_neg (by simp), R_is h hs]
        rw [e]
        refine Gets.succ ?_
        simp only [attest_consistent.f, if_pos c1', List.length_cons, List.length_nil]
        refine Gets.succ ?_
        simp only [attest_consistent.j0, Bool.false_eq_true, if_false, if_pos c1']
        refine Gets.succ ?_
        have hz : (wrap64 (((0 + 1 : Nat) : Int) - 1) == 0) = true := by rw [beq_iff_eq]; unfold wrap64; omega
        simp only [attest_consistent.j1, hz, if_true, List.length_cons, List.length_nil, if_pos (show (0 : Int) < ((0 + 1 : Nat) : Int) by omega)]
        have hx : rdOf ByteArray.empty [R l] 0 = R l := rdOf_get [R l] 0 (by simp)
        exact Gets.of (by rw [hx])
    · have hc : ¬ (m : Int) = (l.length : Int) := by omega
      obtain ⟨g1, g2, g3, g4⟩ := half_list hs (by omega)
      have hR := R_step hs (by omega)
      have s1 := Nat.le_of_eq (sumB_size (R_sum (hs.take (halfV l.length))))
      have s2 := Nat.le_of_eq (sumB_size (R_sum (hs.drop (halfV l.length))))
      by_cases ci : m ≤ halfV l.length
      · have ci' : (m : Int) ≤ ((halfV l.length : Nat) : Int) := by omega
        have e : conF (N + 1) l m b = conF N (l.take (halfV l.length)) m b ++ [R (l.drop (halfV l.length))] := by
          conv => lhs; unfold conF
          rw [if_neg c1, if_pos ci, R_is (by omega) (hs.drop _)]
        have gl := conF_length N (l.take (halfV l.length)) m b
        have htt : (l.take (halfV l.length)).take m = l.take m := by rw [List.take_take, Nat.min_eq_left ci]
        have hr := ih (l.take (halfV l.length)) m b a0 (by omega) hm1 (by omega) (hs.take _) (by rw [htt]; exact hb)
        rw [g3, htt] at hr
        rw [e]
        generalize conF N (l.take (halfV l.length)) m b = A at *
        have hlen : (A ++ [R (l.drop (halfV l.length))]).length = A.length + 1 := by simp
        have hw : wrap64 (((A ++ [R (l.drop (halfV l.length))]).length : Int) - 1) = ((A.length : Nat) : Int) := by rw [hlen]; unfold wrap64; omega
        have hx : rdOf ByteArray.empty (A ++ [R (l.drop (halfV l.length))]) (A.length : Int) = R (l.drop (halfV l.length)) := by
          rw [rdOf_get _ _ (by omega)]; simp
        have ht : (A ++ [R (l.drop (halfV l.length))]).take A.length = A := by simp
        refine Gets.succ ?_
        simp only [attest_consistent.f, if_neg hc, hw]
        refine Gets.succ ?_
        simp only [attest_consistent.j0, if_neg hc, Bool.false_eq_true, if_false]
        refine Gets.succ ?_
        simp only [attest_consistent.j1, if_neg hc, Bool.false_eq_true, if_false, if_neg (show ¬ ((A.length : Nat) : Int) < 0 by omega), if_pos (show (0 : Int) ≤ ((A.length : Nat) : Int) by omega), if_pos (show ((A.length : Nat) : Int) < ((A ++ [R (l.drop (halfV l.length))]).length : Int) by omega), if_pos (show ((A.length : Nat) : Int) ≤ ((A ++ [R (l.drop (halfV l.length))]).length : Int) by omega), Int.toNat_natCast, hx, ht]
        refine Gets.bind (attest_half_gets l.length (by omega)) ?_
        simp only [if_pos ci']
        refine Gets.bind hr ?_
        simp only [attest_joined_is _ _ s1 s2, Option.bind_some]
        exact Gets.of (by rw [← hR])
      · have ci' : ¬ (m : Int) ≤ ((halfV l.length : Nat) : Int) := by omega
        have e : conF (N + 1) l m b = conF N (l.drop (halfV l.length)) (m - halfV l.length) false ++ [R (l.take (halfV l.length))] := by
          conv => lhs; unfold conF
          rw [if_neg c1, if_neg ci, R_is (by omega) (hs.take _)]
        have gl := conF_length N (l.drop (halfV l.length)) (m - halfV l.length) false
        have hp := R_prefix hs (by omega) m (by omega) hm
        have s3 := Nat.le_of_eq (sumB_size (R_sum ((hs.drop (halfV l.length)).take (m - halfV l.length))))
        have hr := ih (l.drop (halfV l.length)) (m - halfV l.length) false a0 (by omega) (by omega) (by omega) (hs.drop _) (fun h => by cases h)
        rw [g4] at hr
        have w1 := wrap_sub m (halfV l.length) (by omega) (by omega)
        have w2 := wrap_sub l.length (halfV l.length) (by omega) (by omega)
        rw [e]
        generalize conF N (l.drop (halfV l.length)) (m - halfV l.length) false = A at *
        have hlen : (A ++ [R (l.take (halfV l.length))]).length = A.length + 1 := by simp
        have hw : wrap64 (((A ++ [R (l.take (halfV l.length))]).length : Int) - 1) = ((A.length : Nat) : Int) := by rw [hlen]; unfold wrap64; omega
        have hx : rdOf ByteArray.empty (A ++ [R (l.take (halfV l.length))]) (A.length : Int) = R (l.take (halfV l.length)) := by
          rw [rdOf_get _ _ (by omega)]; simp
        have ht : (A ++ [R (l.take (halfV l.length))]).take A.length = A := by simp
        refine Gets.succ ?_
        simp only [attest_consistent.f, if_neg hc, hw]
        refine Gets.succ ?_
        simp only [attest_consistent.j0, if_neg hc, Bool.false_eq_true, if_false]
        refine Gets.succ ?_
        simp only [attest_consistent.j1, if_neg hc, Bool.false_eq_true, if_false, if_neg (show ¬ ((A.length : Nat) : Int) < 0 by omega), if_pos (show (0 : Int) ≤ ((A.length : Nat) : Int) by omega), if_pos (show ((A.length : Nat) : Int) < ((A ++ [R (l.take (halfV l.length))]).length : Int) by omega), if_pos (show ((A.length : Nat) : Int) ≤ ((A ++ [R (l.take (halfV l.length))]).length : Int) by omega), Int.toNat_natCast, hx, ht]
        refine Gets.bind (attest_half_gets l.length (by omega)) ?_
        simp only [if_neg ci', w1, w2]
        refine Gets.bind hr ?_
        simp only [attest_joined_is _ _ s1 s3, attest_joined_is _ _ s1 s2, Option.bind_some]
        exact Gets.of (by rw [← hR, ← hp])
theorem sumsV_ok {l : List ByteArray} {n lim : Nat} (h : l.length ≤ n) (hn : n ≤ lim) (hs : ∀ x ∈ l, sumB x = true) : sumsV l lim = 0 := by
  unfold sumsV
  rw [if_neg (by omega), if_pos (List.all_eq_true.2 hs)]
theorem sums_lst {l : List ByteArray} (h : l.length ≤ 1048576) (hs : ∀ x ∈ l, sumB x = true) : Lst l := ⟨by omega, fun x hx => by have := sumB_size (hs x hx); omega⟩
theorem rootV_ok {l : List ByteArray} (h : l.length ≤ 4096) (hs : ∀ x ∈ l, sumB x = true) : rootV l = (R l, 0) := by
  unfold rootV
  rw [sumsV_ok h (Nat.le_refl _) hs, if_pos rfl]
  rfl
theorem Included_ok (l : List ByteArray) (i : Nat) (x : ByteArray) (hx : l[i]? = some x) (hl : l.length ≤ 4096) (hs : ∀ x ∈ l, sumB x = true) : Gets (fun k => attest_Included.f k (R l) x i (l.length : Int) (incF (l.length + 1) l i)) (true, 0) := by
  have hi : i < l.length := (List.getElem?_eq_some_iff.1 hx).1
  have hS : Sums l := ⟨by omega, hs⟩
  have hd := inc_depth (l.length + 1) 12 l i (by omega) hi hS (by omega)
  have hq := inc_sums (l.length + 1) l i (by omega) hi hS
  have hz := sumsV_ok hd (show 12 ≤ 64 by omega) hq
  unfold attest_Included.f attest_isSum.f
  have hxs : sumB x = true := hs x (List.mem_of_getElem? hx)
  simp only [Option.bind_some, if_pos (R_sum hS), hxs, Bool.not_true]
  refine Gets.succ ?_
  simp only [attest_Included.j0, Bool.false_eq_true, if_false, if_neg (show ¬ (l.length : Int) < 1 by omega), if_neg (show ¬ (l.length : Int) > 1073741824 by omega), if_neg (show ¬ (i : Int) < 0 by omega), if_neg (show ¬ (i : Int) ≥ (l.length : Int) by omega)]
  refine Gets.bind (attest_checkSums_gets (sums_lst (by omega) hq) 64) ?_
  simp only [if_pos hz]
  refine Gets.bind (inc_value (l.length + 1) (by omega) l i x hx (by omega) hS) ?_
  simp only [if_true, attest_equal.f, R_sum hS, Bool.true_and, beq_self_eq_true, Option.bind_some]
  exact Gets.pure _
theorem Consistent_ok (l : List ByteArray) (m : Nat) (hm1 : 1 ≤ m) (hm : m ≤ l.length) (hl : l.length ≤ 4096) (hs : ∀ x ∈ l, sumB x = true) : Gets (fun k => attest_Consistent.f k (R (l.take m)) (R l) m (l.length : Int) (conF (l.length + 1) l m true)) (true, 0) := by
  have hS : Sums l := ⟨by omega, hs⟩
  have hd := con_depth (l.length + 1) 12 l m true (by omega) hm1 hm hS (by omega)
  have hq := con_sums (l.length + 1) l m true (by omega) hm1 hm hS
  have hz := sumsV_ok hd (show 12 + 1 ≤ 64 by omega) hq
  unfold attest_Consistent.f attest_isSum.f
  simp only [Option.bind_some, if_pos (R_sum (hS.take m)), R_sum hS, Bool.not_true]
  refine Gets.succ ?_
  simp only [attest_Consistent.j0, Bool.false_eq_true, if_false, if_neg (show ¬ (l.length : Int) < 1 by omega), if_neg (show ¬ (l.length : Int) > 1073741824 by omega), if_neg (show ¬ (m : Int) < 1 by omega), if_neg (show ¬ (m : Int) > (l.length : Int) by omega)]
  refine Gets.bind (attest_checkSums_gets (sums_lst (by omega) hq) 64) ?_
  simp only [if_pos hz]
  refine Gets.bind (con_value (l.length + 1) (by omega) l m true (R (l.take m)) (by omega) hm1 hm hS (fun _ => rfl)) ?_
  simp only [if_true, attest_equal.f, R_sum hS, R_sum (hS.take m), Bool.true_and, beq_self_eq_true, Option.bind_some]
  exact Gets.pure _
theorem hold_true (l : List ByteArray) (a1 a2 a3 : Int) (h0 : l.length * Tryd.prog.bytesOf 9 ≤ 140737488351232 ∧ l.length ≤ maxLen ∧ ∀ a ∈ l, a.size ≤ 140737488351232) (_h1 : -9223372036854775808 ≤ a1 ∧ a1 ≤ 9223372036854775807) (_h2 : -9223372036854775808 ≤ a2 ∧ a2 ≤ 9223372036854775807) (_h3 : -9223372036854775808 ≤ a3 ∧ a3 ≤ 9223372036854775807) : Gets (fun k => provenderlaw8_AttestProofsHold.f k l a1 a2 a3) true := by
  have hl : Lst l := lst_of' (by kernel_rfl) h0
  unfold provenderlaw8_AttestProofsHold.f
  refine Gets.bind (Include_gets hl a1 a3).2 (Gets.bind (Consist_gets hl a2 a3).2 (Gets.bind (Include_gets hl a1 a3).1 (Gets.bind (Consist_gets hl a2 a3).1 ?_)))
  simp only [if_true, bne_self_eq_false]
  have hj1 : Gets (fun k => provenderlaw8_AttestProofsHold.j1 k l a2 a3 (consistV l a2 a3).1 (consistV l a2 a3).2) true := by
    refine Gets.succ ?_
    simp only [provenderlaw8_AttestProofsHold.j1]
    by_cases c : (consistV l a2 a3).2 = 0
    · simp only [if_pos c]
      have hv : sumsV l 4096 = 0 ∧ 1 ≤ a3 ∧ a3 ≤ (l.length : Int) ∧ 1 ≤ a2 ∧ a2 ≤ a3 ∧ (consistV l a2 a3).1 = conF (a3.toNat + 1) (l.take a3.toNat) a2.toNat true := by
        revert c
        unfold consistV
        repeat' split
        all_goals first | (intro c; exact ⟨by assumption, by omega, by omega, by omega, by omega, rfl⟩) | (intro c; exfalso; revert c; simp; done) | (intro c; exfalso; omega)
      obtain ⟨v1, v2, v3, v4, v5, v6⟩ := hv
      have hsum := sumsV_zero v1
      rw [v6]
      obtain ⟨n, rfl⟩ : ∃ n : Nat, a3 = (n : Int) := ⟨a3.toNat, by omega⟩
      obtain ⟨m, rfl⟩ : ∃ m : Nat, a2 = (m : Int) := ⟨a2.toNat, by omega⟩
      simp only [if_pos (show (0 : Int) ≤ (n : Int) by omega), if_pos v3, Int.toNat_natCast, if_pos (show (0 : Int) ≤ (m : Int) by omega), if_pos (show (m : Int) ≤ (l.length : Int) by omega)]
      have hn : (l.take n).length = n := by rw [List.length_take]; omega
      have hm : (l.take m).length = m := by rw [List.length_take]; omega
      have tn : ∀ x ∈ l.take n, sumB x = true := fun x hx => hsum.2 x (List.mem_of_mem_take hx)
      have tm : ∀ x ∈ l.take m, sumB x = true := fun x hx => hsum.2 x (List.mem_of_mem_take hx)
      have htt : (l.take n).take m = l.take m := by rw [List.take_take, Nat.min_eq_left (by omega)]
      refine Gets.bind (attest_Root_gets (sums_lst (by omega) tn)) (Gets.bind (attest_Root_gets (sums_lst (by omega) tm)) ?_)
      rw [rootV_ok (by omega) tn, rootV_ok (by omega) tm]
      have hc := Consistent_ok (l.take n) m (by omega) (by omega) (by omega) tn
      rw [htt, hn] at hc
      refine Gets.bind hc ?_
      simp only [if_true]
      exact Gets.bind told_gets (Gets.pure _)
    · simp only [if_neg c]
      exact Gets.bind told_gets (Gets.pure _)
  refine Gets.succ ?_
  simp only [provenderlaw8_AttestProofsHold.j0, Bool.false_eq_true, if_false]
  by_cases c : (includeV l a1 a3).2 = 0
  · simp only [if_pos c]
    have hv : sumsV l 4096 = 0 ∧ 1 ≤ a3 ∧ a3 ≤ (l.length : Int) ∧ 0 ≤ a1 ∧ a1 < a3 ∧ (includeV l a1 a3).1 = incF (a3.toNat + 1) (l.take a3.toNat) a1.toNat := by
      revert c
      unfold includeV
      repeat' split
      all_goals first | (intro c; exact ⟨by assumption, by omega, by omega, by omega, by omega, rfl⟩) | (intro c; exfalso; revert c; simp; done) | (intro c; exfalso; omega)
    obtain ⟨v1, v2, v3, v4, v5, v6⟩ := hv
    have hsum := sumsV_zero v1
    rw [v6]
    obtain ⟨n, rfl⟩ : ∃ n : Nat, a3 = (n : Int) := ⟨a3.toNat, by omega⟩
    obtain ⟨i, rfl⟩ : ∃ i : Nat, a1 = (i : Int) := ⟨a1.toNat, by omega⟩
    have hi : i < l.length := by omega
    simp only [if_pos (show (0 : Int) ≤ (n : Int) by omega), if_pos v3, Int.toNat_natCast, if_pos (show (0 : Int) ≤ (i : Int) by omega), if_pos (show (i : Int) < (l.length : Int) by omega), rdOf_get l i hi]
    have hn : (l.take n).length = n := by rw [List.length_take]; omega
    have tn : ∀ x ∈ l.take n, sumB x = true := fun x hx => hsum.2 x (List.mem_of_mem_take hx)
    refine Gets.bind (attest_Root_gets (sums_lst (by omega) tn)) ?_
    rw [rootV_ok (by omega) tn]
    have hc := Included_ok (l.take n) i l[i] (by rw [List.getElem?_take_of_lt (by omega)]; exact List.getElem?_eq_getElem hi) (by omega) tn
    rw [hn] at hc
    refine Gets.bind hc ?_
    simp only [if_true]
    exact hj1
  · simp only [if_neg c]
    exact hj1
end Go.Proofs.YtdmmglihkdkeaaaDoor.Pr
