/- What the small functions of chapter 8 answer: names, sums, and the tools to say that a function answers so with all rounds from some number on. Conditions: the texts are no longer than the form allows. -/
import Derived.Test.YtdmmglihkdkeaaaDoorUPrx0
import Derived.Test.YtdmmglihkdkeaaaDoorUPrx5
import Derived.Test.YtdmmglihkdkeaaaDoorUPrx6
import Derived.Test.YtdmmglihkdkeaaaDoorUPrx7
import Derived.Test.YtdmmglihkdkeaaaDoorUEa
import Derived.Test.YtdmmglihkdkeaaaDoorUEb
namespace Go.Proofs.YtdmmglihkdkeaaaDoor.Pr
open Go.RowKit Go.Proofs.YtdmmglihkdkeaaaDoorW.PrintWords Go.Proofs.YtdmmglihkdkeaaaDoorW.PrintLast Go.Proofs.YtdmmglihkdkeaaaDoorW.PrintMore
/-- From some number of rounds on, the answer is r. -/
def Gets {α : Type} (g : Nat → Option α) (r : α) : Prop := ∃ K, ∀ k, K ≤ k → g k = some r
theorem Gets.pure {α : Type} (r : α) : Gets (fun _ => some r) r := ⟨0, fun _ _ => rfl⟩
theorem Gets.of {α : Type} {g : Option α} {r : α} (h : g = some r) : Gets (fun _ => g) r := ⟨0, fun _ _ => h⟩
theorem Gets.bind {α β : Type} {g : Nat → Option α} {a : α} {f : Nat → α → Option β} {b : β} (h : Gets g a) (h2 : Gets (fun k => f k a) b) : Gets (fun k => (g k).bind (f k)) b := by
  obtain ⟨K, h⟩ := h
  obtain ⟨K2, h2⟩ := h2
  exact ⟨max K K2, fun k hk => by show (g k).bind (f k) = some b; rw [h k (by omega)]; exact h2 k (by omega)⟩
theorem Gets.succ {α : Type} {g : Nat → Option α} {r : α} (h : Gets (fun k => g (k + 1)) r) : Gets g r := by
  obtain ⟨K, h⟩ := h
  refine ⟨K + 1, fun k hk => ?_⟩
  obtain ⟨k, rfl⟩ : ∃ m, k = m + 1 := ⟨k - 1, by omega⟩
  exact h k (by omega)
theorem Gets.congr {α : Type} {g : Nat → Option α} {r r' : α} (h : Gets g r) (e : r = r') : Gets g r' := e ▸ h
theorem wrap_succ (i : Nat) (h : i ≤ 9223372036854775806) : wrap64 ((i : Int) + 1) = ((i + 1 : Nat) : Int) := by unfold wrap64; omega
/-- A byte that can stand in a name. -/
def nb (c : Int) : Prop := (97 ≤ c ∧ c ≤ 122) ∨ (65 ≤ c ∧ c ≤ 90) ∨ (48 ≤ c ∧ c ≤ 57) ∨ c = 45 ∨ c = 95 ∨ c = 46
instance (c : Int) : Decidable (nb c) := by unfold nb; exact inferInstance
/-- From place i on all digits are right. -/
theorem hex_at (s : ByteArray) (i : Nat) (hi : i < s.size) : hexLo (s.data.toList[i]'(by simpa using hi)) = decide ((48 ≤ bt s (i : Int) ∧ bt s (i : Int) ≤ 57) ∨ (97 ≤ bt s (i : Int) ∧ bt s (i : Int) ≤ 102)) := by
  rw [bt_get s i hi]
  generalize (s.data.toList[i]'(by simpa using hi)) = c
  simp only [hexLo, UInt8.le_iff_toNat_le, show (48 : UInt8).toNat = 48 from rfl, show (57 : UInt8).toNat = 57 from rfl, show (97 : UInt8).toNat = 97 from rfl, show (102 : UInt8).toNat = 102 from rfl]
  rw [Bool.eq_iff_iff]
  simp only [Bool.or_eq_true, Bool.and_eq_true, decide_eq_true_eq]
  omega
theorem hex_loop (s : ByteArray) (hs : s.size ≤ 140737488351232) (n : Int) (d : Nat) : ∀ (k i : Nat), i + d = s.size → d < k → provenderref2_IsHex.l0 k s n i = some ((s.data.toList.drop i).all hexLo && ((s.size : Int) == n)) := by
  have hl : s.data.toList.length = s.size := by simp
  induction d with
  | zero =>
    intro k i hi hk
    obtain ⟨k, rfl⟩ : ∃ m, k = m + 1 := ⟨k - 1, by omega⟩
    simp only [provenderref2_IsHex.l0]
    rw [if_neg (by omega), List.drop_of_length_le (by omega)]
    rfl
  | succ d ih =>
    intro k i hi hk
    obtain ⟨k, rfl⟩ : ∃ m, k = m + 1 := ⟨k - 1, by omega⟩
    simp only [provenderref2_IsHex.l0]
    have hih := ih k (i + 1) (by omega) (by omega)
    rw [if_pos (by omega), if_pos (by omega), wrap_succ i (by omega), List.drop_eq_getElem_cons (show i < s.data.toList.length by omega), List.all_cons, hex_at s i (by omega), Bool.and_assoc, hih]
    generalize bt s (i : Int) = c
    generalize ((s.data.toList.drop (i + 1)).all hexLo && ((s.size : Int) == n)) = B at *
    by_cases h : (48 ≤ c ∧ c ≤ 57) ∨ (97 ≤ c ∧ c ≤ 102)
    · rw [decide_eq_true h]
      simp only [Bool.true_and]
      repeat' split
      all_goals first | rfl | (exfalso; omega)
    · rw [decide_eq_false h]
      simp only [Bool.false_and]
      repeat' split
      all_goals first | rfl | (exfalso; omega)
theorem ref_isSum (s : ByteArray) (hs : s.size ≤ 140737488351232) : Gets (fun k => provenderref8_isSum.f k s) (sumB s) := by
  refine Gets.bind (a := sumB s) ⟨s.size + 1, fun k hk => ?_⟩ (Gets.pure _)
  have h := hex_loop s hs 16 s.size k 0 (by omega) (by omega)
  unfold provenderref2_IsHex.f
  refine h.trans ?_
  rw [List.drop_zero]
  unfold sumB
  rw [Bool.and_comm]
  congr 2
  rw [Bool.eq_iff_iff, beq_iff_eq, beq_iff_eq]
  omega
theorem ref_digits (U : Nat) (hU : U < 18446744073709551616) (d : Nat) : ∀ (k : Nat) (xs : List Int), d ≤ 16 → xs.length + d = 16 → d < k → provenderref2_Sum64.l1 k U xs (4 * (d : Int) - 4) = some (strOfNums (xs ++ (lowD U d).map fun c => (c.toNat : Int))) := by
  induction d with
  | zero =>
    intro k xs h16 hx hk
    obtain ⟨k, rfl⟩ : ∃ m, k = m + 1 := ⟨k - 1, by omega⟩
    simp only [provenderref2_Sum64.l1]
    rw [if_neg (by omega)]
    simp [lowD]
  | succ d ih =>
    intro k xs h16 hx hk
    obtain ⟨k, rfl⟩ : ∃ m, k = m + 1 := ⟨k - 1, by omega⟩
    simp only [provenderref2_Sum64.l1]
    have e1 : shr .u64 (U : Int) (4 * ((d + 1 : Nat) : Int) - 4) = ((U / 16 ^ d : Nat) : Int) := by
      unfold shr
      rw [show (4 * ((d + 1 : Nat) : Int) - 4).toNat = 4 * d by omega, Nat.min_eq_left (by show 4 * d ≤ 64; omega), show (16 : Nat) = 2 ^ 4 from rfl, ← Nat.pow_mul]
      push_cast
      rfl
    rw [e1, u64_and15 _ (Nat.lt_of_le_of_lt (Nat.div_le_self _ _) hU)]
    have hm : U / 16 ^ d % 16 < 16 := Nat.mod_lt _ (by omega)
    generalize hmm : U / 16 ^ d % 16 = m at *
    rw [if_pos (by omega), if_pos (by omega), if_pos (by omega), if_pos (by omega), if_pos (by omega)]
    have h := ih k (xs ++ [(((hexDig m).toNat : Nat) : Int)]) (by omega) (by simp; omega) (by omega)
    have e2 : ∀ q : Fin 16, bt (⟨#[48,49,50,51,52,53,54,55,56,57,97,98,99,100,101,102]⟩ : ByteArray) ((q.1 : Nat) : Int) = ((hexDig q.1).toNat : Int) := by decide +kernel
    rw [e2 ⟨m, hm⟩, show wrap64 (4 * ((d + 1 : Nat) : Int) - 4 - 4) = 4 * (d : Int) - 4 by unfold wrap64; omega, h]
    simp only [lowD, List.map_cons, List.append_assoc, List.singleton_append, hmm]
theorem ref_fnv (s : ByteArray) (hs : s.size ≤ 1000000000000000) (d : Nat) : ∀ (k i : Nat), i + d = s.size → d + 20 < k → provenderref2_Sum64.l0 k s ((fnv (s.data.toList.take i) : Nat) : Int) i = some (sumHex s) := by
  have hl : s.data.toList.length = s.size := by simp
  induction d with
  | zero =>
    intro k i hi hk
    obtain ⟨k, rfl⟩ : ∃ m, k = m + 1 := ⟨k - 1, by omega⟩
    simp only [provenderref2_Sum64.l0]
    rw [if_neg (by omega), List.take_of_length_le (by omega)]
    have h := ref_digits (fnv s.data.toList) (fnv_lt _) 16 k [] (by omega) (by rfl) (by omega)
    rw [show (60 : Int) = 4 * ((16 : Nat) : Int) - 4 from rfl, h, List.nil_append, show strOfNums ((lowD (fnv s.data.toList) 16).map fun c => (c.toNat : Int)) = sumHex s from by unfold strOfNums sumHex; rw [List.map_map]; congr 2; exact (List.map_congr_left (fun c _ => by simp)).trans (List.map_id _)]
  | succ d ih =>
    intro k i hi hk
    obtain ⟨k, rfl⟩ : ∃ m, k = m + 1 := ⟨k - 1, by omega⟩
    simp only [provenderref2_Sum64.l0]
    have hi2 : i < s.data.toList.length := by omega
    rw [if_pos (by omega), if_pos (by omega), wrap_succ i (by omega), bt_get s i (by omega), step_xor _ (fnv_lt _), step_mul]
    have h := ih k (i + 1) (by omega) (by omega)
    rw [List.take_succ_eq_append_getElem hi2, fnv_snoc] at h
    exact h
theorem ref_Sum64 (s : ByteArray) (hs : s.size ≤ 1000000000000000) : Gets (fun k => provenderref2_Sum64.f k s) (sumHex s) :=
  ⟨s.size + 21, fun k hk => by
    have h := ref_fnv s hs s.size k 0 (by omega) (by omega)
    rw [List.take_zero] at h
    exact h⟩
end Go.Proofs.YtdmmglihkdkeaaaDoor.Pr
