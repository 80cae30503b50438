/- The plain law of proofs: the two ways to check a proof of a tree answer alike. Conditions: the texts and lists are no longer than the form allows. -/
import Derived.Test.YtdmmglihkdkeaaaDoorQPe
import Derived.Test.YtdmmglihkdkeaaaDoorQPrx23
namespace Go.Proofs.YtdmmglihkdkeaaaDoor.Pr
open Go.RowKit Go.Proofs.YtdmmglihkdkeaaaDoorW.PrintWords Go.Proofs.YtdmmglihkdkeaaaDoorW.PrintLast Go.Proofs.YtdmmglihkdkeaaaDoorW.PrintMore
def ConP (r r' : ByteArray × ByteArray × Bool) : Prop := r.2.2 = r'.2.2 ∧ (r.2.2 = true → r.1 = r'.1 ∧ r.2.1 = r'.2.1 ∧ sumB r.1 = true ∧ sumB r.2.1 = true) ∧ r.1.size ≤ 16 ∧ r.2.1.size ≤ 16 ∧ r'.1.size ≤ 16 ∧ r'.2.1.size ≤ 16
theorem last_beq (l : List ByteArray) (hl : l.length ≤ 140737488355328) : ((l.length : Int) == 0) = decide (wrap64 ((l.length : Int) - 1) < 0) := by
  by_cases h0 : l = []
  · subst h0
    rw [show ([] : List ByteArray).length = 0 from rfl, decide_eq_true wrap_none]
    rfl
  · have hpos : 1 ≤ l.length := List.length_pos_iff.2 h0
    rw [wrap_last l h0 hl, decide_eq_false (by omega), beq_eq_false_iff_ne]
    omega
theorem last_zero (l : List ByteArray) (hl : l.length ≤ 140737488355328) : (wrap64 ((l.length : Int) - 1) == 0) = decide (l.length = 1) := by
  by_cases h0 : l = []
  · subst h0
    rw [show ([] : List ByteArray).length = 0 from rfl, decide_eq_false (by omega), beq_eq_false_iff_ne]
    have := wrap_none
    omega
  · have hpos : 1 ≤ l.length := List.length_pos_iff.2 h0
    rw [wrap_last l h0 hl]
    by_cases h1 : l.length = 1
    · rw [decide_eq_true h1, h1]; rfl
    · rw [decide_eq_false h1, beq_eq_false_iff_ne]; omega
theorem zero_size : ByteArray.size (⟨#[]⟩ : ByteArray) ≤ 16 := by show 0 ≤ 16; omega
theorem con_both (N : Nat) : ∀ (n : Nat), n ≤ N → n ≤ 1152921504606846976 → ∀ (a0 : ByteArray) (m : Nat) (b : Bool) (l : List ByteArray), 1 ≤ m → m ≤ n → sumB a0 = true → l.length ≤ 140737488355328 → (∀ x ∈ l, sumB x = true) →
    ∃ r r', Gets (fun k => provenderref8_consistent.f k a0 m n b l) r ∧ Gets (fun k => attest_consistent.f k a0 m n b l) r' ∧ ConP r r' := by
  induction N with
  | zero => intro n h1 h2 a0 m b l hm1 hm; omega
  | succ N ih =>
    intro n hN hn a0 m b l hm1 hm ha hl hs
    have ha16 := sumB_size ha
    by_cases c : m = n
    · subst c
      cases b with
      | true =>
        refine ⟨(a0, a0, ((l.length : Int) == 0)), (a0, a0, decide (wrap64 ((l.length : Int) - 1) < 0)), ?_, ?_, last_beq l hl, fun _ => ⟨rfl, rfl, ha, ha⟩, show a0.size ≤ 16 by omega, show a0.size ≤ 16 by omega, show a0.size ≤ 16 by omega, show a0.size ≤ 16 by omega⟩
        · refine Gets.succ ?_
          simp only [provenderref8_consistent.f, if_true]
          exact Gets.pure _
        · refine Gets.succ ?_
          simp only [attest_consistent.f, if_true]
          refine Gets.succ ?_
          simp only [attest_consistent.j0, if_true]
          exact Gets.pure _
      | false =>
        have hd := last_zero l hl
        by_cases h1 : l.length = 1
        · have h00 : 0 < l.length := by omega
          have hx := hs _ (List.getElem_mem h00)
          have hx16 := sumB_size hx
          have hr := rdOf_get l 0 h00
          refine ⟨(l[0], l[0], true), (l[0], l[0], true), ?_, ?_, rfl, fun _ => ⟨rfl, rfl, hx, hx⟩, show l[0].size ≤ 16 by omega, show l[0].size ≤ 16 by omega, show l[0].size ≤ 16 by omega, show l[0].size ≤ 16 by omega⟩
          · refine Gets.succ ?_
            simp only [provenderref8_consistent.f, if_true, Bool.false_eq_true, if_false, if_pos (show (l.length : Int) = 1 by omega), if_pos (show (0 : Int) < (l.length : Int) by omega)]
            exact Gets.of (by rw [show rdOf ByteArray.empty l 0 = l[0] from hr])
          · refine Gets.succ ?_
            simp only [attest_consistent.f, if_true]
            refine Gets.succ ?_
            simp only [attest_consistent.j0, if_true, Bool.false_eq_true, if_false, hd, decide_eq_true h1]
            refine Gets.succ ?_
            simp only [attest_consistent.j1, if_true, if_pos (show (0 : Int) < (l.length : Int) by omega)]
            exact Gets.of (by rw [show rdOf ByteArray.empty l 0 = l[0] from hr])
        · refine ⟨(⟨#[]⟩, ⟨#[]⟩, false), (⟨#[]⟩, ⟨#[]⟩, false), ?_, ?_, rfl, fun h => by simp at h, zero_size, zero_size, zero_size, zero_size⟩
          · refine Gets.succ ?_
            simp only [provenderref8_consistent.f, if_true, Bool.false_eq_true, if_false, if_neg (show ¬ (l.length : Int) = 1 by omega)]
            exact Gets.pure _
          · refine Gets.succ ?_
            simp only [attest_consistent.f, if_true]
            refine Gets.succ ?_
            simp only [attest_consistent.j0, if_true, Bool.false_eq_true, if_false, hd, decide_eq_false h1]
            refine Gets.succ ?_
            simp only [attest_consistent.j1, if_true, Bool.false_eq_true, if_false]
            exact Gets.pure _
    · have hc : ¬ (m : Int) = (n : Int) := by omega
      by_cases h0 : l = []
      · subst h0
        refine ⟨(⟨#[]⟩, ⟨#[]⟩, false), (⟨#[]⟩, ⟨#[]⟩, false), ?_, ?_, rfl, fun h => by simp at h, zero_size, zero_size, zero_size, zero_size⟩
        · refine Gets.succ ?_
          simp only [provenderref8_consistent.f, if_neg hc, List.length_nil, show ((0 : Nat) : Int) = 0 from rfl, if_true]
          exact Gets.pure _
        · refine Gets.succ ?_
          simp only [attest_consistent.f, if_neg hc, List.length_nil]
          refine Gets.succ ?_
          simp only [attest_consistent.j0, if_neg hc, Bool.false_eq_true, if_false]
          refine Gets.succ ?_
          simp only [attest_consistent.j1, if_neg hc, Bool.false_eq_true, if_false, if_pos wrap_none]
          exact Gets.pure _
      · have hpos : 1 ≤ l.length := List.length_pos_iff.2 h0
        have hw := wrap_last l h0 hl
        obtain ⟨hh1, hh2⟩ := half_facts n hn
        have hh2 := hh2 (by omega)
        have hml : l.length - 1 < l.length := by omega
        have hlast := hs _ (List.getElem_mem hml)
        have hlast16 : l[l.length - 1].size ≤ 16 := Nat.le_of_eq (sumB_size hlast)
        have hts : ∀ x ∈ l.take (l.length - 1), sumB x = true := fun x hx => hs x (List.mem_of_mem_take hx)
        have htl : (l.take (l.length - 1)).length ≤ 140737488355328 := by rw [List.length_take]; omega
        have n1 : (0 : Int) ≤ ((l.length - 1 : Nat) : Int) := by omega
        have n2 : ((l.length - 1 : Nat) : Int) < (l.length : Int) := by omega
        have n3 : ((l.length - 1 : Nat) : Int) ≤ (l.length : Int) := by omega
        have n4 : ¬ (l.length : Int) = 0 := by omega
        have n5 : ¬ ((l.length - 1 : Nat) : Int) < 0 := by omega
        by_cases ci : m ≤ halfV n
        · have ci' : (m : Int) ≤ ((halfV n : Nat) : Int) := by omega
          obtain ⟨r, r', hr, hr', hp⟩ := ih (halfV n) (by omega) (by omega) a0 m b (l.take (l.length - 1)) hm1 ci ha htl hts
          refine ⟨(r.1, joinV r.2.1 l[l.length - 1], r.2.2), (r'.1, joinV r'.2.1 l[l.length - 1], r'.2.2), ?_, ?_, hp.1, fun h => ⟨(hp.2.1 h).1, by show joinV r.2.1 _ = joinV r'.2.1 _; rw [(hp.2.1 h).2.1], (hp.2.1 h).2.2.1, joinV_sum _ _⟩, hp.2.2.1, joinV_size _ _, hp.2.2.2.2.1, joinV_size _ _⟩
          · refine Gets.succ ?_
            simp only [provenderref8_consistent.f, if_neg hc, hw, if_neg n4, if_pos n1, if_pos n2, if_pos n3, Int.toNat_natCast, rdOf_get l _ hml]
            refine Gets.bind (ref_half_gets n hn) ?_
            simp only [if_pos ci']
            exact Gets.bind hr (Gets.bind (ref_join _ _ hp.2.2.2.1 hlast16) (Gets.pure _))
          · refine Gets.succ ?_
            simp only [attest_consistent.f, if_neg hc, hw]
            refine Gets.succ ?_
            simp only [attest_consistent.j0, if_neg hc, Bool.false_eq_true, if_false]
            refine Gets.succ ?_
            simp only [attest_consistent.j1, if_neg hc, Bool.false_eq_true, if_false, if_neg n5, if_pos n1, if_pos n2, if_pos n3, Int.toNat_natCast, rdOf_get l _ hml]
            refine Gets.bind (attest_half_gets n hn) ?_
            simp only [if_pos ci']
            refine Gets.bind hr' ?_
            simp only [attest_joined_is _ _ hp.2.2.2.2.2 hlast16, Option.bind_some]
            exact Gets.pure _
        · have ci' : ¬ (m : Int) ≤ ((halfV n : Nat) : Int) := by omega
          obtain ⟨r, r', hr, hr', hp⟩ := ih (n - halfV n) (by omega) (by omega) a0 (m - halfV n) false (l.take (l.length - 1)) (by omega) (by omega) ha htl hts
          have w1 := wrap_sub m (halfV n) (by omega) (by omega)
          have w2 := wrap_sub n (halfV n) (by omega) (by omega)
          refine ⟨(joinV l[l.length - 1] r.1, joinV l[l.length - 1] r.2.1, r.2.2), (joinV l[l.length - 1] r'.1, joinV l[l.length - 1] r'.2.1, r'.2.2), ?_, ?_, hp.1, fun h => ⟨by show joinV _ r.1 = joinV _ r'.1; rw [(hp.2.1 h).1], by show joinV _ r.2.1 = joinV _ r'.2.1; rw [(hp.2.1 h).2.1], joinV_sum _ _, joinV_sum _ _⟩, joinV_size _ _, joinV_size _ _, joinV_size _ _, joinV_size _ _⟩
          · refine Gets.succ ?_
            simp only [provenderref8_consistent.f, if_neg hc, hw, if_neg n4, if_pos n1, if_pos n2, if_pos n3, Int.toNat_natCast, rdOf_get l _ hml]
            refine Gets.bind (ref_half_gets n hn) ?_
            simp only [if_neg ci', w1, w2]
            exact Gets.bind hr (Gets.bind (ref_join _ _ hlast16 hp.2.2.1) (Gets.bind (ref_join _ _ hlast16 hp.2.2.2.1) (Gets.pure _)))
          · refine Gets.succ ?_
            simp only [attest_consistent.f, if_neg hc, hw]
            refine Gets.succ ?_
            simp only [attest_consistent.j0, if_neg hc, Bool.false_eq_true, if_false]
            refine Gets.succ ?_
            simp only [attest_consistent.j1, if_neg hc, Bool.false_eq_true, if_false, if_neg n5, if_pos n1, if_pos n2, if_pos n3, Int.toNat_natCast, rdOf_get l _ hml]
            refine Gets.bind (attest_half_gets n hn) ?_
            simp only [if_neg ci', w1, w2]
            refine Gets.bind hr' ?_
            simp only [attest_joined_is _ _ hlast16 hp.2.2.2.2.1, attest_joined_is _ _ hlast16 hp.2.2.2.2.2, Option.bind_some]
            exact Gets.pure _
theorem Included_both (root leaf : ByteArray) (i n : Int) (l : List ByteArray) (hr : root.size ≤ 140737488351232) (hl : leaf.size ≤ 140737488351232) (h : Lst l) :
    ∃ r, Gets (fun k => provenderref8_Included.f k root leaf i n l) r ∧ Gets (fun k => attest_Included.f k root leaf i n l) r := by
  have bad : ∃ r, Gets (fun k => provenderref8_Included.j0 k root leaf i n l true) r ∧ Gets (fun k => attest_Included.j0 k root leaf i n l true) r := by
    refine ⟨(false, 2), Gets.succ ?_, Gets.succ ?_⟩
    · simp only [provenderref8_Included.j0, if_true]; exact Gets.pure _
    · simp only [attest_Included.j0, if_true]; exact Gets.pure _
  by_cases c1 : sumB root = true
  · by_cases c2 : sumB leaf = true
    · have good : ∃ r, Gets (fun k => provenderref8_Included.j0 k root leaf i n l false) r ∧ Gets (fun k => attest_Included.j0 k root leaf i n l false) r := by
        by_cases cr : 1 ≤ n ∧ n ≤ 1073741824 ∧ 0 ≤ i ∧ i < n
        · obtain ⟨g1, g2, g3, g4⟩ := cr
          have hv : proofV n (decide (i < n)) l = sumsV l 64 := by
            unfold proofV
            rw [if_neg (by omega), if_neg (by omega), if_pos (decide_eq_true g4)]
          have hf := ref_proofFault n (decide (i < n)) h
          rw [hv] at hf
          have hg := attest_checkSums_gets h 64
          by_cases cz : sumsV l 64 = 0
          · obtain ⟨hlen, hsum⟩ := sumsV_zero cz
            obtain ⟨N, rfl⟩ : ∃ N : Nat, n = (N : Int) := ⟨n.toNat, by omega⟩
            obtain ⟨I, rfl⟩ : ∃ I : Nat, i = (I : Int) := ⟨i.toNat, by omega⟩
            obtain ⟨r, r', h1, h2, hp⟩ := inc_both N N (Nat.le_refl _) (by omega) (by omega) leaf I l (by omega) c2 (by omega) hsum
            refine ⟨if r.2 = true then (r.1.toList == root.toList, 0) else (false, 0), Gets.succ ?_, Gets.succ ?_⟩
            · simp only [provenderref8_Included.j0, Bool.false_eq_true, if_false, if_pos (show (I : Int) ≥ 0 by omega)]
              refine Gets.bind hf ?_
              simp only [if_pos cz]
              refine Gets.bind h1 ?_
              by_cases cb : r.2 = true
              · simp only [if_pos cb]; exact Gets.pure _
              · simp only [if_neg cb]; exact Gets.pure _
            · simp only [attest_Included.j0, Bool.false_eq_true, if_false, if_neg (show ¬ (N : Int) < 1 by omega), if_neg (show ¬ (N : Int) > 1073741824 by omega), if_neg (show ¬ (I : Int) < 0 by omega), if_neg (show ¬ (I : Int) ≥ (N : Int) by omega)]
              refine Gets.bind hg ?_
              simp only [if_pos cz]
              refine Gets.bind h2 ?_
              by_cases cb : r.2 = true
              · have cb' : r'.2 = true := by rw [← hp.1]; exact cb
                obtain ⟨e1, e2⟩ := hp.2.1 cb
                simp only [if_pos cb, if_pos cb', attest_equal.f, ← e1, e2, c1, Bool.true_and, Option.bind_some]; exact Gets.pure _
              · have cb' : ¬ r'.2 = true := by rw [← hp.1]; exact cb
                simp only [if_neg cb, if_neg cb']; exact Gets.pure _
          · refine ⟨(false, sumsV l 64), Gets.succ ?_, Gets.succ ?_⟩
            · simp only [provenderref8_Included.j0, Bool.false_eq_true, if_false, if_pos (show i ≥ 0 by omega)]
              refine Gets.bind hf ?_
              simp only [if_neg cz]; exact Gets.pure _
            · simp only [attest_Included.j0, Bool.false_eq_true, if_false, if_neg (show ¬ n < 1 by omega), if_neg (show ¬ n > 1073741824 by omega), if_neg (show ¬ i < 0 by omega), if_neg (show ¬ i ≥ n by omega)]
              refine Gets.bind hg ?_
              simp only [if_neg cz]; exact Gets.pure _
        · refine ⟨(false, 9), Gets.succ ?_, Gets.succ ?_⟩
          · simp only [provenderref8_Included.j0, Bool.false_eq_true, if_false]
            by_cases ci : i ≥ 0
            · simp only [if_pos ci]
              refine Gets.bind (a := 9) ((ref_proofFault n (decide (i < n)) h).congr ?_) (by simp only [show ¬ (9 : Int) = 0 by omega, if_false]; exact Gets.pure _)
              unfold proofV
              split
              · rfl
              · split
                · rfl
                · rw [if_neg (by rw [decide_eq_true_eq]; omega)]
            · simp only [if_neg ci]
              refine Gets.bind (a := 9) ((ref_proofFault n false h).congr ?_) (by simp only [show ¬ (9 : Int) = 0 by omega, if_false]; exact Gets.pure _)
              unfold proofV
              split
              · rfl
              · split
                · rfl
                · rfl
          · simp only [attest_Included.j0, Bool.false_eq_true, if_false]
            by_cases d1 : n < 1
            · simp only [if_pos d1]; exact Gets.pure _
            · simp only [if_neg d1]
              by_cases d2 : n > 1073741824
              · simp only [if_pos d2]; exact Gets.pure _
              · simp only [if_neg d2]
                by_cases d3 : i < 0
                · simp only [if_pos d3]; exact Gets.pure _
                · simp only [if_neg d3, if_pos (show i ≥ n by omega)]; exact Gets.pure _
      obtain ⟨r, h1, h2⟩ := good
      refine ⟨r, ?_, ?_⟩
      · unfold provenderref8_Included.f
        refine Gets.bind (ref_isSum root hr) ?_
        simp only [if_pos c1]
        refine Gets.bind (ref_isSum leaf hl) ?_
        rw [c2]; exact h1
      · unfold attest_Included.f attest_isSum.f
        simp only [Option.bind_some, if_pos c1, c2]
        exact h2
    · obtain ⟨r, h1, h2⟩ := bad
      have c2' : sumB leaf = false := by simpa using c2
      refine ⟨r, ?_, ?_⟩
      · unfold provenderref8_Included.f
        refine Gets.bind (ref_isSum root hr) ?_
        simp only [if_pos c1]
        refine Gets.bind (ref_isSum leaf hl) ?_
        rw [c2']; exact h1
      · unfold attest_Included.f attest_isSum.f
        simp only [Option.bind_some, if_pos c1, c2']
        exact h2
  · obtain ⟨r, h1, h2⟩ := bad
    refine ⟨r, ?_, ?_⟩
    · unfold provenderref8_Included.f
      refine Gets.bind (ref_isSum root hr) ?_
      simp only [if_neg c1]
      exact h1
    · unfold attest_Included.f attest_isSum.f
      simp only [Option.bind_some, if_neg c1]
      exact h2
theorem Consistent_both (r1 r2 : ByteArray) (m n : Int) (l : List ByteArray) (hr1 : r1.size ≤ 140737488351232) (hr2 : r2.size ≤ 140737488351232) (h : Lst l) :
    ∃ r, Gets (fun k => provenderref8_Consistent.f k r1 r2 m n l) r ∧ Gets (fun k => attest_Consistent.f k r1 r2 m n l) r := by
  have bad : ∃ r, Gets (fun k => provenderref8_Consistent.j0 k r1 r2 m n l true) r ∧ Gets (fun k => attest_Consistent.j0 k r1 r2 m n l true) r := by
    refine ⟨(false, 2), Gets.succ ?_, Gets.succ ?_⟩
    · simp only [provenderref8_Consistent.j0, if_true]; exact Gets.pure _
    · simp only [attest_Consistent.j0, if_true]; exact Gets.pure _
  by_cases c1 : sumB r1 = true
  · by_cases c2 : sumB r2 = true
    · have good : ∃ r, Gets (fun k => provenderref8_Consistent.j0 k r1 r2 m n l false) r ∧ Gets (fun k => attest_Consistent.j0 k r1 r2 m n l false) r := by
        by_cases cr : 1 ≤ n ∧ n ≤ 1073741824 ∧ 1 ≤ m ∧ m ≤ n
        · obtain ⟨g1, g2, g3, g4⟩ := cr
          have hv : proofV n (decide (m ≤ n)) l = sumsV l 64 := by
            unfold proofV
            rw [if_neg (by omega), if_neg (by omega), if_pos (decide_eq_true g4)]
          have hf := ref_proofFault n (decide (m ≤ n)) h
          rw [hv] at hf
          have hg := attest_checkSums_gets h 64
          by_cases cz : sumsV l 64 = 0
          · obtain ⟨hlen, hsum⟩ := sumsV_zero cz
            obtain ⟨N, rfl⟩ : ∃ N : Nat, n = (N : Int) := ⟨n.toNat, by omega⟩
            obtain ⟨M, rfl⟩ : ∃ M : Nat, m = (M : Int) := ⟨m.toNat, by omega⟩
            obtain ⟨r, r', h1, h2, hp⟩ := con_both N N (Nat.le_refl _) (by omega) r1 M true l (by omega) (by omega) c1 (by omega) hsum
            refine ⟨if r.2.2 = true then (if r.1.toList = r1.toList then (r.2.1.toList == r2.toList, 0) else (false, 0)) else (false, 0), Gets.succ ?_, Gets.succ ?_⟩
            · simp only [provenderref8_Consistent.j0, Bool.false_eq_true, if_false, if_pos (show (M : Int) ≥ 1 by omega)]
              refine Gets.bind hf ?_
              simp only [if_pos cz]
              refine Gets.bind h1 ?_
              by_cases cb : r.2.2 = true
              · simp only [if_pos cb]
                by_cases cd : r.1.toList = r1.toList
                · simp only [if_pos cd]; exact Gets.pure _
                · simp only [if_neg cd]; exact Gets.pure _
              · simp only [if_neg cb]; exact Gets.pure _
            · simp only [attest_Consistent.j0, Bool.false_eq_true, if_false, if_neg (show ¬ (N : Int) < 1 by omega), if_neg (show ¬ (N : Int) > 1073741824 by omega), if_neg (show ¬ (M : Int) < 1 by omega), if_neg (show ¬ (M : Int) > (N : Int) by omega)]
              refine Gets.bind hg ?_
              simp only [if_pos cz]
              refine Gets.bind h2 ?_
              by_cases cb : r.2.2 = true
              · have cb' : r'.2.2 = true := by rw [← hp.1]; exact cb
                obtain ⟨e1, e2, e3, e4⟩ := hp.2.1 cb
                simp only [if_pos cb, if_pos cb', attest_equal.f, ← e1, ← e2, e3, e4, c1, c2, Bool.true_and, Option.bind_some, beq_iff_eq]
                by_cases cd : r.1.toList = r1.toList
                · simp only [if_pos cd]; exact Gets.pure _
                · simp only [if_neg cd]; exact Gets.pure _
              · have cb' : ¬ r'.2.2 = true := by rw [← hp.1]; exact cb
                simp only [if_neg cb, if_neg cb']; exact Gets.pure _
          · refine ⟨(false, sumsV l 64), Gets.succ ?_, Gets.succ ?_⟩
            · simp only [provenderref8_Consistent.j0, Bool.false_eq_true, if_false, if_pos (show m ≥ 1 by omega)]
              refine Gets.bind hf ?_
              simp only [if_neg cz]; exact Gets.pure _
            · simp only [attest_Consistent.j0, Bool.false_eq_true, if_false, if_neg (show ¬ n < 1 by omega), if_neg (show ¬ n > 1073741824 by omega), if_neg (show ¬ m < 1 by omega), if_neg (show ¬ m > n by omega)]
              refine Gets.bind hg ?_
              simp only [if_neg cz]; exact Gets.pure _
        · refine ⟨(false, 9), Gets.succ ?_, Gets.succ ?_⟩
          · simp only [provenderref8_Consistent.j0, Bool.false_eq_true, if_false]
            by_cases ci : m ≥ 1
            · simp only [if_pos ci]
              refine Gets.bind (a := 9) ((ref_proofFault n (decide (m ≤ n)) h).congr ?_) (by simp only [show ¬ (9 : Int) = 0 by omega, if_false]; exact Gets.pure _)
              unfold proofV
              split
              · rfl
              · split
                · rfl
                · rw [if_neg (by rw [decide_eq_true_eq]; omega)]
            · simp only [if_neg ci]
              refine Gets.bind (a := 9) ((ref_proofFault n false h).congr ?_) (by simp only [show ¬ (9 : Int) = 0 by omega, if_false]; exact Gets.pure _)
              unfold proofV
              split
              · rfl
              · split
                · rfl
                · rfl
          · simp only [attest_Consistent.j0, Bool.false_eq_true, if_false]
            by_cases d1 : n < 1
            · simp only [if_pos d1]; exact Gets.pure _
            · simp only [if_neg d1]
              by_cases d2 : n > 1073741824
              · simp only [if_pos d2]; exact Gets.pure _
              · simp only [if_neg d2]
                by_cases d3 : m < 1
                · simp only [if_pos d3]; exact Gets.pure _
                · simp only [if_neg d3, if_pos (show m > n by omega)]; exact Gets.pure _
      obtain ⟨r, h1, h2⟩ := good
      refine ⟨r, ?_, ?_⟩
      · unfold provenderref8_Consistent.f
        refine Gets.bind (ref_isSum r1 hr1) ?_
        simp only [if_pos c1]
        refine Gets.bind (ref_isSum r2 hr2) ?_
        rw [c2]; exact h1
      · unfold attest_Consistent.f attest_isSum.f
        simp only [Option.bind_some, if_pos c1, c2]
        exact h2
    · obtain ⟨r, h1, h2⟩ := bad
      have c2' : sumB r2 = false := by simpa using c2
      refine ⟨r, ?_, ?_⟩
      · unfold provenderref8_Consistent.f
        refine Gets.bind (ref_isSum r1 hr1) ?_
        simp only [if_pos c1]
        refine Gets.bind (ref_isSum r2 hr2) ?_
        rw [c2']; exact h1
      · unfold attest_Consistent.f attest_isSum.f
        simp only [Option.bind_some, if_pos c1, c2']
        exact h2
  · obtain ⟨r, h1, h2⟩ := bad
    refine ⟨r, ?_, ?_⟩
    · unfold provenderref8_Consistent.f
      refine Gets.bind (ref_isSum r1 hr1) ?_
      simp only [if_neg c1]
      exact h1
    · unfold attest_Consistent.f attest_isSum.f
      simp only [Option.bind_some, if_neg c1]
      exact h2
end Go.Proofs.YtdmmglihkdkeaaaDoor.Pr
