/- The plain law of digests: what the law computes is true, from some number of rounds on. Conditions: the texts are no longer than the form allows. -/
import Derived.Test.YtmnfjbmhlabdaaaDoorDKa
import Derived.Test.YtmnfjbmhlabdaaaDoorDPl10
import Derived.Test.YtmnfjbmhlabdaaaDoorDPrx6
namespace Go.Proofs.YtmnfjbmhlabdaaaDoor.Pr
open Go.RowKit Go.Proofs.YtmnfjbmhlabdaaaDoorW.PrintWords Go.Proofs.YtmnfjbmhlabdaaaDoorW.PrintLast Go.Proofs.YtmnfjbmhlabdaaaDoorW.PrintMore
set_option linter.unusedSimpArgs false
def hexLo (c : UInt8) : Bool := (48 ≤ c && c ≤ 57) || (97 ≤ c && c ≤ 102)
theorem bt_get (s : ByteArray) (k : Nat) (hk : k < s.size) : bt s (k : Int) = ((s.data.toList[k]'(by simpa using hk)).toNat : Int) := by
 simp [bt, hk]; rfl
theorem hex_at (s : ByteArray) (i : Nat) (hi : i < s.size) : hexLo (s.data.toList[i]'(by simpa using hi)) = decide ((48 ≤ bt s (i : Int) ∧ bt s (i : Int) ≤ 57) ∨ (97 ≤ bt s (i : Int) ∧ bt s (i : Int) ≤ 102)) := by
 rw [bt_get s i hi]
 generalize (s.data.toList[i]'(by simpa using hi)) = c
 simp only [hexLo, UInt8.le_iff_toNat_le, show (48 : UInt8).toNat = 48 from rfl, show (57 : UInt8).toNat = 57 from rfl, show (97 : UInt8).toNat = 97 from rfl, show (102 : UInt8).toNat = 102 from rfl]
 rw [Bool.eq_iff_iff]
 simp only [Bool.or_eq_true, Bool.and_eq_true, decide_eq_true_eq]
 omega
theorem hex_loop (s : ByteArray) (hs : s.size ≤ 140737488351232) (n : Int) (d : Nat) : ∀ (k i : Nat), i + d = s.size → d < k → provenderref2_IsHex.l0 k s n i = some ((s.data.toList.drop i).all hexLo && ((s.size : Int) == n)) := by
 have hl : s.data.toList.length = s.size := by simp
 induction d with
 | zero =>
  intro k i hi hk
  obtain ⟨k, rfl⟩ : ∃ m, k = m + 1 := ⟨k - 1, by omega⟩
  simp only [provenderref2_IsHex.l0]
  rw [if_neg (by omega), List.drop_of_length_le (by omega)]
  rfl
 | succ d ih =>
  intro k i hi hk
  obtain ⟨k, rfl⟩ : ∃ m, k = m + 1 := ⟨k - 1, by omega⟩
  simp only [provenderref2_IsHex.l0]
  have hih := ih k (i + 1) (by omega) (by omega)
  rw [if_pos (by omega), if_pos (by omega), wrap_succ i (by omega), List.drop_eq_getElem_cons (show i < s.data.toList.length by omega), List.all_cons, hex_at s i (by omega), Bool.and_assoc, hih]
  generalize bt s (i : Int) = c
  generalize ((s.data.toList.drop (i + 1)).all hexLo && ((s.size : Int) == n)) = B at *
  by_cases h : (48 ≤ c ∧ c ≤ 57) ∨ (97 ≤ c ∧ c ≤ 102)
  ·rw [decide_eq_true h]
   simp only [Bool.true_and]
   repeat' split
   all_goals first | rfl | (exfalso; omega)
  ·rw [decide_eq_false h]
   simp only [Bool.false_and]
   repeat' split
   all_goals first | rfl | (exfalso; omega)
theorem ref_digits (U : Nat) (hU : U < 18446744073709551616) (d : Nat) : ∀ (k : Nat) (xs : List Int), d ≤ 16 → xs.length + d = 16 → d < k → provenderref2_Sum64.l1 k U xs (4 * (d : Int) - 4) = some (strOfNums (xs ++ (lowD U d).map fun c => (c.toNat : Int))) := by
 induction d with
 | zero =>
  intro k xs h16 hx hk
  obtain ⟨k, rfl⟩ : ∃ m, k = m + 1 := ⟨k - 1, by omega⟩
  simp only [provenderref2_Sum64.l1]
  rw [if_neg (by omega)]
  simp [lowD]
 | succ d ih =>
  intro k xs h16 hx hk
  obtain ⟨k, rfl⟩ : ∃ m, k = m + 1 := ⟨k - 1, by omega⟩
  simp only [provenderref2_Sum64.l1]
  have e1 : shr .u64 (U : Int) (4 * ((d + 1 : Nat) : Int) - 4) = ((U / 16 ^ d : Nat) : Int) := by
   unfold shr
   rw [show (4 * ((d + 1 : Nat) : Int) - 4).toNat = 4 * d by omega, Nat.min_eq_left (by show 4 * d ≤ 64; omega), show (16 : Nat) = 2 ^ 4 from rfl, ← Nat.pow_mul]
   push_cast
   rfl
  rw [e1, u64_and15 _ (Nat.lt_of_le_of_lt (Nat.div_le_self _ _) hU)]
  have hm : U / 16 ^ d % 16 < 16 := Nat.mod_lt _ (by omega)
  generalize hmm : U / 16 ^ d % 16 = m at *
  rw [if_pos (by omega), if_pos (by omega), if_pos (by omega), if_pos (by omega), if_pos (by omega)]
  have h := ih k (xs ++ [(((hexDig m).toNat : Nat) : Int)]) (by omega) (by simp; omega) (by omega)
  have e2 : ∀ q : Fin 16, bt (⟨#[48,49,50,51,52,53,54,55,56,57,97,98,99,100,101,102]⟩ : ByteArray) ((q.1 : Nat) : Int) = ((hexDig q.1).toNat : Int) := by decide +kernel
  rw [e2 ⟨m, hm⟩, show wrap64 (4 * ((d + 1 : Nat) : Int) - 4 - 4) = 4 * (d : Int) - 4 by unfold wrap64; omega, h]
  simp only [lowD, List.map_cons, List.append_assoc, List.singleton_append, hmm]
theorem ref_fnv (s : ByteArray) (hs : s.size ≤ 1000000000000000) (d : Nat) : ∀ (k i : Nat), i + d = s.size → d + 20 < k → provenderref2_Sum64.l0 k s ((fnv (s.data.toList.take i) : Nat) : Int) i = some (sumHex s) := by
 have hl : s.data.toList.length = s.size := by simp
 induction d with
 | zero =>
  intro k i hi hk
  obtain ⟨k, rfl⟩ : ∃ m, k = m + 1 := ⟨k - 1, by omega⟩
  simp only [provenderref2_Sum64.l0]
  rw [if_neg (by omega), List.take_of_length_le (by omega)]
  have h := ref_digits (fnv s.data.toList) (fnv_lt _) 16 k [] (by omega) (by rfl) (by omega)
  rw [show (60 : Int) = 4 * ((16 : Nat) : Int) - 4 from rfl, h, List.nil_append, show strOfNums ((lowD (fnv s.data.toList) 16).map fun c => (c.toNat : Int)) = sumHex s from by unfold strOfNums sumHex; rw [List.map_map]; congr 2; exact (List.map_congr_left (fun c _ => by simp)).trans (List.map_id _)]
 | succ d ih =>
  intro k i hi hk
  obtain ⟨k, rfl⟩ : ∃ m, k = m + 1 := ⟨k - 1, by omega⟩
  simp only [provenderref2_Sum64.l0]
  have hi2 : i < s.data.toList.length := by omega
  rw [if_pos (by omega), if_pos (by omega), wrap_succ i (by omega), bt_get s i (by omega), step_xor _ (fnv_lt _), step_mul]
  have h := ih k (i + 1) (by omega) (by omega)
  rw [List.take_succ_eq_append_getElem hi2, fnv_snoc] at h
  exact h
theorem ref_Sum64 (s : ByteArray) (hs : s.size ≤ 1000000000000000) : Gets (fun k => provenderref2_Sum64.f k s) (sumHex s) :=
 ⟨s.size + 21, fun k hk => by
  have h := ref_fnv s hs s.size k 0 (by omega) (by omega)
  rw [List.take_zero] at h
  exact h⟩
def hexB (s : ByteArray) (n : Int) : Bool := s.data.toList.all hexLo && ((s.size : Int) == n)
theorem ref_IsHex (s : ByteArray) (hs : s.size ≤ 140737488351232) (n : Int) : Gets (fun k => provenderref2_IsHex.f k s n) (hexB s n) :=
 ⟨s.size + 1, fun k hk => by
  have h := hex_loop s hs n s.size k 0 (by omega) (by omega)
  rw [List.drop_zero] at h
  exact h⟩
/-- What purl's digit function answers. -/
def hexV (c : Int) : Int := if 48 ≤ c ∧ c ≤ 57 then (c - 48) % 256 else if 97 ≤ c ∧ c ≤ 102 then (c - 97) % 256 + 10 else if 65 ≤ c ∧ c ≤ 70 then (c - 65) % 256 + 10 else -1
theorem hex_is (k : Nat) (hk : 2 ≤ k) (c : Int) : purl_hex.f k c = some (hexV c) := by
 obtain ⟨k, rfl⟩ : ∃ m, k = m + 2 := ⟨k - 2, by omega⟩
 unfold purl_hex.f hexV
 simp only [purl_hex.j0, purl_hex.j1]
 by_cases h1 : 48 ≤ c <;> by_cases h2 : c ≤ 57 <;> by_cases h3 : 97 ≤ c <;> by_cases h4 : c ≤ 102 <;> by_cases h5 : 65 ≤ c <;> by_cases h6 : c ≤ 70 <;> first | (exfalso; omega) | simp [h1, h2, h3, h4, h5, h6]
theorem sum_loop (s : ByteArray) (hs : s.size ≤ 140737488351232) (n : Int) (d : Nat) : ∀ (k i : Nat), i + d = s.size → d + 2 < k → purl_isSum.l0 k s n (s.size : Int) i = some ((s.data.toList.drop i).all hexLo && ((s.size : Int) == n)) := by
 have hl : s.data.toList.length = s.size := by simp
 induction d with
 | zero =>
  intro k i hi hk
  obtain ⟨k, rfl⟩ : ∃ m, k = m + 1 := ⟨k - 1, by omega⟩
  simp only [purl_isSum.l0]
  rw [if_neg (by omega), List.drop_of_length_le (by omega)]
  rfl
 | succ d ih =>
  intro k i hi hk
  obtain ⟨k, rfl⟩ : ∃ m, k = m + 1 := ⟨k - 1, by omega⟩
  have hih := ih k (i + 1) (by omega) (by omega)
  simp only [purl_isSum.l0]
  rw [if_pos (by omega), if_pos (by omega), if_pos (by omega), hex_is k (by omega), Option.bind_some, wrap_succ i (by omega), List.drop_eq_getElem_cons (show i < s.data.toList.length by omega), List.all_cons, hex_at s i (by omega), Bool.and_assoc]
  rw [show purl_isSum.l0 k s n (s.size : Int) ((i + 1 : Nat) : Int) = some ((s.data.toList.drop (i + 1)).all hexLo && ((s.size : Int) == n)) from hih]
  generalize bt s (i : Int) = c
  generalize ((s.data.toList.drop (i + 1)).all hexLo && ((s.size : Int) == n)) = B at *
  unfold hexV
  by_cases h : (48 ≤ c ∧ c ≤ 57) ∨ (97 ≤ c ∧ c ≤ 102)
  ·rw [decide_eq_true h]
   simp only [Bool.true_and]
   repeat' split
   all_goals first | rfl | (exfalso; omega)
  ·rw [decide_eq_false h]
   simp only [Bool.false_and]
   repeat' split
   all_goals first | rfl | (exfalso; omega)
theorem purl_isSum_gets (s : ByteArray) (hs : s.size ≤ 140737488351232) (n : Int) : Gets (fun k => purl_isSum.f k s n) (hexB s n) :=
 ⟨s.size + 3, fun k hk => by
  have h := sum_loop s hs n s.size k 0 (by omega) (by omega)
  rw [List.drop_zero] at h
  exact h⟩
/-- The error of digests, from place i on, where d are left. -/
def chk (l : List S108) : Nat → Nat → Int
 | 0, _ => 0
 | d + 1, i =>
  if (rd_T108 l i).f0.toList = [115, 104, 97, 50, 53, 54] ∨ (rd_T108 l i).f0.toList = [115, 117, 109, 54, 52] then
   if hexB (rd_T108 l i).f1 (if (rd_T108 l i).f0.toList = [115, 117, 109, 54, 52] then 16 else 64) = true then
    if 0 < i then
     if Op.bytesLess (rd_T108 l ((i - 1 : Nat) : Int)).f0.toList (rd_T108 l i).f0.toList = true then chk l d (i + 1) else 10
    else chk l d (i + 1)
   else 2
  else 7
def chkL (l : List S108) : Int := if (l.length : Int) > 4 then 3 else chk l l.length 0
theorem rd_mem (l : List S108) (i : Nat) (h : i < l.length) : rd_T108 l (i : Int) ∈ l := by
 unfold rd_T108
 rw [Int.toNat_natCast, List.getD_eq_getElem?_getD, List.getElem?_eq_getElem h]
 exact List.getElem_mem h
theorem sum_ne : ([115, 117, 109, 54, 52] : List UInt8) ≠ [115, 104, 97, 50, 53, 54] := by decide
theorem ref_chk (l : List S108) (hl : l.length ≤ 4) (hs : ∀ x ∈ l, x.f1.size ≤ 140737488351232) (d : Nat) : ∀ i, i + d = l.length → Gets (fun k => provenderref2_CheckDigests.l0 k l l (l.length : Int) (i : Int)) (chk l d i) := by
 induction d with
 | zero =>
  intro i hi
  refine Gets.succ ?_
  simp only [provenderref2_CheckDigests.l0]
  simp only [show ((i : Int) < (l.length : Int)) = False from eq_false (by omega)]
  exact Gets.pure _
 | succ d ih =>
  intro i hi
  have hih := ih (i + 1) (by omega)
  have hm := hs _ (rd_mem l i (by omega))
  refine Gets.succ ?_
  simp only [provenderref2_CheckDigests.l0, chk]
  simp only [show ((i : Int) < (l.length : Int)) = True from eq_true (by omega)]
  simp only [show ((0 : Int) ≤ (i : Int)) = True from eq_true (by omega)]
  simp only [if_true]
  generalize hq : rd_T108 l (i : Int) = q at *
  have tail : ∀ n : Int, Gets (fun k => provenderref2_CheckDigests.j1 k l i n l (l.length : Int) (i : Int) q.f0 q.f1) (if hexB q.f1 n = true then if 0 < i then if Op.bytesLess (rd_T108 l ((i - 1 : Nat) : Int)).f0.toList q.f0.toList = true then chk l d (i + 1) else 10 else chk l d (i + 1) else 2) := by
   intro n
   refine Gets.succ ?_
   simp only [provenderref2_CheckDigests.j1]
   refine Gets.bind (ref_IsHex q.f1 hm n) ?_
   by_cases hb : hexB q.f1 n = true
   ·simp only [hb, if_true]
    rw [wrap_succ i (by omega)]
    by_cases h0 : 0 < i
    ·simp only [show ((i : Int) > 0) = True from eq_true (by omega)]
     rw [show wrap64 ((i : Int) - 1) = ((i - 1 : Nat) : Int) by unfold wrap64; omega]
     simp only [show ((0 : Int) ≤ ((i - 1 : Nat) : Int)) = True from eq_true (by omega)]
     simp only [show (((i - 1 : Nat) : Int) < (l.length : Int)) = True from eq_true (by omega)]
     rw [if_pos h0]
     simp only [if_true]
     by_cases hl2 : Op.bytesLess (rd_T108 l ((i - 1 : Nat) : Int)).f0.toList q.f0.toList = true
     ·simp only [hl2, if_true]
      exact hih
     ·simp only [hl2, if_false]
      exact Gets.pure _
    ·simp only [show ((i : Int) > 0) = False from eq_false (by omega)]
     rw [if_neg h0]
     simp only [if_false]
     exact hih
   ·simp only [hb, if_false]
    exact Gets.pure _
  by_cases h1 : q.f0.toList = [115, 104, 97, 50, 53, 54]
  ·rw [if_pos (Or.inl h1)]
   simp only [h1, if_true, if_neg (fun e => sum_ne (Eq.symm e))] at tail ⊢
   exact tail 64
  ·by_cases h2 : q.f0.toList = [115, 117, 109, 54, 52]
   ·rw [if_pos (Or.inr h2)]
    simp only [h2, if_true, if_neg sum_ne] at tail ⊢
    exact tail 16
   ·rw [if_neg (fun e => e.elim h1 h2)]
    simp only [h1, h2, if_false]
    exact Gets.pure _
theorem purl_chk (l : List S108) (hl : l.length ≤ 4) (hs : ∀ x ∈ l, x.f1.size ≤ 140737488351232) (d : Nat) : ∀ i, i + d = l.length → Gets (fun k => purl_CheckDigests.l0 k l l (l.length : Int) (i : Int)) (chk l d i) := by
 induction d with
 | zero =>
  intro i hi
  refine Gets.succ ?_
  simp only [purl_CheckDigests.l0]
  simp only [show ((i : Int) < (l.length : Int)) = False from eq_false (by omega)]
  exact Gets.pure _
 | succ d ih =>
  intro i hi
  have hih := ih (i + 1) (by omega)
  have hm := hs _ (rd_mem l i (by omega))
  refine Gets.succ ?_
  simp only [purl_CheckDigests.l0, chk]
  simp only [show ((i : Int) < (l.length : Int)) = True from eq_true (by omega)]
  simp only [show ((0 : Int) ≤ (i : Int)) = True from eq_true (by omega)]
  simp only [if_true]
  generalize hq : rd_T108 l (i : Int) = q at *
  have tail : ∀ n : Int, Gets (fun k => purl_CheckDigests.j2 k l i n l (l.length : Int) (i : Int) false q.f0 q.f1) (if hexB q.f1 n = true then if 0 < i then if Op.bytesLess (rd_T108 l ((i - 1 : Nat) : Int)).f0.toList q.f0.toList = true then chk l d (i + 1) else 10 else chk l d (i + 1) else 2) := by
   intro n
   refine Gets.succ ?_
   simp only [purl_CheckDigests.j2]
   simp only [Bool.false_eq_true, if_false]
   refine Gets.bind (purl_isSum_gets q.f1 hm n) ?_
   by_cases hb : hexB q.f1 n = true
   ·simp only [hb, if_true]
    rw [wrap_succ i (by omega)]
    by_cases h0 : 0 < i
    ·simp only [show ((i : Int) > 0) = True from eq_true (by omega)]
     rw [show wrap64 ((i : Int) - 1) = ((i - 1 : Nat) : Int) by unfold wrap64; omega]
     simp only [show ((0 : Int) ≤ ((i - 1 : Nat) : Int)) = True from eq_true (by omega)]
     simp only [show (((i - 1 : Nat) : Int) < (l.length : Int)) = True from eq_true (by omega)]
     rw [if_pos h0]
     simp only [if_true]
     by_cases hl2 : Op.bytesLess (rd_T108 l ((i - 1 : Nat) : Int)).f0.toList q.f0.toList = true
     ·simp only [hl2, if_true]
      exact hih
     ·simp only [hl2, if_false]
      exact Gets.pure _
    ·simp only [show ((i : Int) > 0) = False from eq_false (by omega)]
     rw [if_neg h0]
     simp only [if_false]
     exact hih
   ·simp only [hb, if_false]
    exact Gets.pure _
  by_cases h1 : q.f0.toList = [115, 104, 97, 50, 53, 54]
  ·rw [if_pos (Or.inl h1)]
   simp only [h1, if_neg (fun e => sum_ne (Eq.symm e))] at tail ⊢
   refine Gets.succ ?_
   simp only [purl_CheckDigests.j1, h1, if_true]
   exact tail 64
  ·by_cases h2 : q.f0.toList = [115, 117, 109, 54, 52]
   ·rw [if_pos (Or.inr h2)]
    simp only [h2, if_true] at tail ⊢
    refine Gets.succ ?_
    simp only [purl_CheckDigests.j1, h2, if_neg sum_ne, bne_self_eq_false]
    exact tail 16
   ·rw [if_neg (fun e => e.elim h1 h2)]
    simp only [h2, if_false]
    refine Gets.succ ?_
    simp only [purl_CheckDigests.j1, h1, if_false, bne_iff_ne.mpr h2]
    refine Gets.succ ?_
    simp only [purl_CheckDigests.j2, if_true]
    exact Gets.pure _
theorem ref_CheckDigests (l : List S108) (hs : ∀ x ∈ l, x.f1.size ≤ 140737488351232) : Gets (fun k => provenderref2_CheckDigests.f k l) (chkL l) := by
 unfold provenderref2_CheckDigests.f chkL
 by_cases h : (l.length : Int) > 4
 ·simp only [h, if_true]; exact Gets.pure _
 ·simp only [h, if_false]; exact ref_chk l (by omega) hs l.length 0 (by omega)
theorem purl_CheckDigests_gets (l : List S108) (hs : ∀ x ∈ l, x.f1.size ≤ 140737488351232) : Gets (fun k => purl_CheckDigests.f k l) (chkL l) := by
 unfold purl_CheckDigests.f chkL
 by_cases h : (l.length : Int) > 4
 ·simp only [h, if_true]; exact Gets.pure _
 ·simp only [h, if_false]; exact purl_chk l (by omega) hs l.length 0 (by omega)
theorem chk_len {l : List S108} (h : chkL l = 0) : l.length ≤ 4 := by
 unfold chkL at h
 by_cases h4 : (l.length : Int) > 4
 ·rw [if_pos h4] at h; omega
 ·omega
/-- The loops of both sides are the same function. -/
theorem loops_same (k : Nat) : (∀ b acc a n i, provenderref2_Agree.l1 k b acc a n i = purl_Agree.l0 k b acc a n i) ∧ (∀ b acc a n i b' m j s t, provenderref2_Agree.l2 k b acc a n i b' m j s t = purl_Agree.l1 k b acc a n i b' m j s t) := by
 induction k with
 | zero => exact ⟨fun _ _ _ _ _ => by simp only [provenderref2_Agree.l1, purl_Agree.l0], fun _ _ _ _ _ _ _ _ _ _ => by simp only [provenderref2_Agree.l2, purl_Agree.l1]⟩
 | succ k ih => exact ⟨fun _ _ _ _ _ => by simp only [provenderref2_Agree.l1, purl_Agree.l0, ih.2], fun _ _ _ _ _ _ _ _ _ _ => by simp only [provenderref2_Agree.l2, purl_Agree.l1, ih.1, ih.2]⟩
/-- One digest against a list: none, if a text differs. -/
def inn (x : S108) : List S108 → Int → Option Int
 | [], acc => some acc
 | y :: ys, acc => if x.f0.toList = y.f0.toList then (if x.f1.toList = y.f1.toList then inn x ys 1 else none) else inn x ys acc
def out (b : List S108) : List S108 → Int → Int
 | [], acc => acc
 | x :: xs, acc => match inn x b acc with
  | none => -1
  | some r => out b xs r
theorem rd_drop (l : List S108) (i : Nat) (h : i < l.length) : l.drop i = rd_T108 l (i : Int) :: l.drop (i + 1) := by
 rw [List.drop_eq_getElem_cons h]
 unfold rd_T108
 rw [Int.toNat_natCast, List.getD_eq_getElem?_getD, List.getElem?_eq_getElem h]
 rfl
theorem agree_loop (b : List S108) (hb : b.length ≤ 4) (a : List S108) (ha : a.length ≤ 4) (d : Nat) : ∀ (i : Nat) (acc : Int), i + d = a.length → Gets (fun k => purl_Agree.l0 k b acc a (a.length : Int) (i : Int)) (out b (a.drop i) acc, 0) := by
 induction d with
 | zero =>
  intro i acc hi
  refine Gets.succ ?_
  simp only [purl_Agree.l0]
  simp only [show ((i : Int) < (a.length : Int)) = False from eq_false (by omega)]
  rw [List.drop_of_length_le (by omega)]
  exact Gets.pure _
 | succ d ih =>
  intro i acc hi
  refine Gets.succ ?_
  simp only [purl_Agree.l0]
  simp only [show ((i : Int) < (a.length : Int)) = True from eq_true (by omega)]
  simp only [show ((0 : Int) ≤ (i : Int)) = True from eq_true (by omega)]
  rw [rd_drop a i (by omega)]
  simp only [if_true, out]
  generalize rd_T108 a (i : Int) = x
  have inner : ∀ (c j : Nat) (acc : Int), j + c = b.length → Gets (fun k => purl_Agree.l1 k b acc a (a.length : Int) (i : Int) b (b.length : Int) (j : Int) x.f0 x.f1) (match inn x (b.drop j) acc with | none => (-1 : Int) | some r => out b (a.drop (i + 1)) r, 0) := by
   intro c
   induction c with
   | zero =>
    intro j acc hj
    refine Gets.succ ?_
    simp only [purl_Agree.l1]
    simp only [show ((j : Int) < (b.length : Int)) = False from eq_false (by omega)]
    rw [List.drop_of_length_le (by omega)]
    rw [wrap_succ i (by omega)]
    simp only [if_false, inn]
    exact ih (i + 1) acc (by omega)
   | succ c ic =>
    intro j acc hj
    refine Gets.succ ?_
    simp only [purl_Agree.l1]
    simp only [show ((j : Int) < (b.length : Int)) = True from eq_true (by omega)]
    simp only [show ((0 : Int) ≤ (j : Int)) = True from eq_true (by omega)]
    rw [rd_drop b j (by omega)]
    rw [wrap_succ j (by omega)]
    simp only [if_true, inn]
    generalize rd_T108 b (j : Int) = y
    by_cases h1 : x.f0.toList = y.f0.toList
    ·by_cases h2 : x.f1.toList = y.f1.toList
     ·simp only [h1, h2, if_true]
      exact ic (j + 1) 1 (by omega)
     ·simp only [h1, h2, if_true, if_false]
      exact Gets.pure _
    ·simp only [h1, if_false]
     exact ic (j + 1) acc (by omega)
  have := inner b.length 0 acc (by omega)
  rw [List.drop_zero] at this
  exact this
def mm (x y : S108) : Bool := (x.f0.toList == y.f0.toList) && !(x.f1.toList == y.f1.toList)
def ht (x y : S108) : Bool := (x.f0.toList == y.f0.toList) && (x.f1.toList == y.f1.toList)
theorem inn_is (x : S108) (b : List S108) : ∀ acc, inn x b acc = if b.any (mm x) = true then none else some (if b.any (ht x) = true then 1 else acc) := by
 induction b with
 | nil => intro acc; rfl
 | cons y ys ih =>
  intro acc
  show (if x.f0.toList = y.f0.toList then (if x.f1.toList = y.f1.toList then inn x ys 1 else none) else inn x ys acc) = (if (mm x y || ys.any (mm x)) = true then none else some (if (ht x y || ys.any (ht x)) = true then 1 else acc))
  by_cases h1 : x.f0.toList = y.f0.toList
  ·by_cases h2 : x.f1.toList = y.f1.toList
   ·have e1 : mm x y = false := by unfold mm; rw [beq_iff_eq.mpr h1, beq_iff_eq.mpr h2]; rfl
    have e2 : ht x y = true := by unfold ht; rw [beq_iff_eq.mpr h1, beq_iff_eq.mpr h2]; rfl
    rw [if_pos h1, if_pos h2, e1, e2, ih 1]
    simp
   ·have e1 : mm x y = true := by unfold mm; rw [beq_iff_eq.mpr h1, beq_eq_false_iff_ne.mpr h2]; rfl
    rw [if_pos h1, if_neg h2, e1]
    simp
  ·have e1 : mm x y = false := by unfold mm; rw [beq_eq_false_iff_ne.mpr h1]; rfl
   have e2 : ht x y = false := by unfold ht; rw [beq_eq_false_iff_ne.mpr h1]; rfl
   rw [if_neg h1, e1, e2, ih acc]
   simp
theorem out_is (b a : List S108) : ∀ acc, out b a acc = if a.any (fun x => b.any (mm x)) = true then -1 else if a.any (fun x => b.any (ht x)) = true then 1 else acc := by
 induction a with
 | nil => intro acc; rfl
 | cons x xs ih =>
  intro acc
  show (match inn x b acc with | none => -1 | some r => out b xs r) = (if (b.any (mm x) || xs.any (fun x => b.any (mm x))) = true then -1 else if (b.any (ht x) || xs.any (fun x => b.any (ht x))) = true then 1 else acc)
  rw [inn_is]
  by_cases h1 : b.any (mm x) = true
  ·simp [h1]
  ·rw [if_neg h1]
   simp only [ih]
   rw [Bool.not_eq_true] at h1
   rw [h1]
   simp only [Bool.false_or]
   split
   ·rfl
   ·by_cases h2 : b.any (ht x) = true
    ·simp [h2]
    ·rw [Bool.not_eq_true] at h2
     simp [h2]
theorem any_swap (p : S108 → S108 → Bool) (hp : ∀ x y, p x y = p y x) (a b : List S108) : a.any (fun x => b.any (p x)) = b.any (fun y => a.any (p y)) := by
 rw [Bool.eq_iff_iff]
 simp only [List.any_eq_true]
 constructor
 ·rintro ⟨x, hx, y, hy, h⟩
  exact ⟨y, hy, x, hx, by rw [hp]; exact h⟩
 ·rintro ⟨x, hx, y, hy, h⟩
  exact ⟨y, hy, x, hx, by rw [hp]; exact h⟩
theorem beq_comm' (x y : List UInt8) : (x == y) = (y == x) := by
 rw [Bool.eq_iff_iff, beq_iff_eq, beq_iff_eq]
 exact ⟨Eq.symm, Eq.symm⟩
theorem out_swap (a b : List S108) : out a b 0 = out b a 0 := by
 rw [out_is, out_is, any_swap mm (fun x y => by unfold mm; rw [beq_comm' x.f0.toList, beq_comm' x.f1.toList]) a b, any_swap ht (fun x y => by unfold ht; rw [beq_comm' x.f0.toList, beq_comm' x.f1.toList]) a b]
def agrB (a b : List S108) : Int × Int := if chkL a = 0 then (if chkL b = 0 then (out b a 0, 0) else (0, chkL b)) else (0, chkL a)
theorem purl_Agree_gets (a b : List S108) (ha : ∀ x ∈ a, x.f1.size ≤ 140737488351232) (hb : ∀ x ∈ b, x.f1.size ≤ 140737488351232) : Gets (fun k => purl_Agree.f k a b) (agrB a b) := by
 unfold purl_Agree.f agrB
 refine Gets.bind (purl_CheckDigests_gets a ha) ?_
 by_cases h1 : chkL a = 0
 ·simp only [h1, if_true]
  refine Gets.bind (purl_CheckDigests_gets b hb) ?_
  by_cases h2 : chkL b = 0
  ·simp only [h2, if_true]
   have h := agree_loop b (chk_len h2) a (chk_len h1) a.length 0 0 (by omega)
   rw [List.drop_zero] at h
   exact h
  ·simp only [h2, if_false]
   exact Gets.pure _
 ·simp only [h1, if_false]
  exact Gets.pure _
theorem ref_Agree (a b : List S108) (ha : ∀ x ∈ a, x.f1.size ≤ 140737488351232) (hb : ∀ x ∈ b, x.f1.size ≤ 140737488351232) : Gets (fun k => provenderref2_Agree.f k a b) (agrB a b) := by
 unfold provenderref2_Agree.f agrB
 simp only [Option.bind_some]
 refine Gets.succ ?_
 simp only [provenderref2_Agree.l0]
 simp only [show (((0 : Int)) < ((([a, b] : List (List S108)).length : Nat) : Int)) = True from eq_true (show (0 : Int) < ((2 : Nat) : Int) by decide)]
 simp only [if_true, Int.le_refl]
 refine Gets.bind (a := chkL a) (ref_CheckDigests a ha) ?_
 by_cases h1 : chkL a = 0
 ·simp only [h1, if_true]
  refine Gets.succ ?_
  rw [show wrap64 ((0 : Int) + 1) = 1 by unfold wrap64; omega]
  simp only [provenderref2_Agree.l0]
  simp only [show ((1 : Int) < ((([a, b] : List (List S108)).length : Nat) : Int)) = True from eq_true (show (1 : Int) < ((2 : Nat) : Int) by decide)]
  simp only [show ((0 : Int) ≤ 1) = True from eq_true (by decide)]
  simp only [if_true]
  refine Gets.bind (a := chkL b) (ref_CheckDigests b hb) ?_
  by_cases h2 : chkL b = 0
  ·simp only [h2, if_true]
   refine Gets.succ ?_
   rw [show wrap64 ((1 : Int) + 1) = 2 by unfold wrap64; omega]
   simp only [provenderref2_Agree.l0]
   simp only [show ((2 : Int) < ((([a, b] : List (List S108)).length : Nat) : Int)) = False from eq_false (show ¬ ((2 : Int) < ((2 : Nat) : Int)) by decide)]
   simp only [if_false, (loops_same _).1]
   have h := agree_loop b (chk_len h2) a (chk_len h1) a.length 0 0 (by omega)
   rw [List.drop_zero] at h
   exact h
  ·simp only [h2, if_false]
   exact Gets.pure _
 ·simp only [h1, if_false]
  exact Gets.pure _
theorem digests_true (a0 : ByteArray) (l1 l2 : List S108) (h0 : a0.size ≤ 140737488351232) (h1 : ∀ x ∈ l1, x.f1.size ≤ 140737488351232) (h2 : ∀ x ∈ l2, x.f1.size ≤ 140737488351232) : Gets (fun k => provenderlaw2_PurlDigestsMatchSpec.f k a0 l1 l2) true := by
 unfold provenderlaw2_PurlDigestsMatchSpec.f
 refine Gets.bind (ref_Agree l1 l2 h1 h2) (Gets.bind (purl_Agree_gets l1 l2 h1 h2) (Gets.bind (purl_Agree_gets l2 l1 h2 h1) (Gets.bind (ref_Sum64 a0 (by omega)) (Gets.bind (Gets.of (show purl_Sum64.f a0 = some (sumHex a0) from if_pos (by omega))) ?_))))
 simp only [if_true]
 refine Gets.bind (ref_CheckDigests l1 h1) (Gets.bind (purl_CheckDigests_gets l1 h1) ?_)
 simp only [if_true]
 by_cases he : (agrB l1 l2).2 = 0
 ·simp only [he, if_true]
  have e : agrB l2 l1 = agrB l1 l2 := by
   unfold agrB at he ⊢
   by_cases g1 : chkL l1 = 0
   ·by_cases g2 : chkL l2 = 0
    ·simp only [g1, g2, if_true, out_swap]
    ·simp only [g1, g2, if_true, if_false] at he
   ·simp only [g1, if_false] at he
  simp only [e, he, if_true]
  exact Gets.bind told_gets (Gets.pure _)
 ·simp only [he, if_false]
  exact Gets.bind told_gets (Gets.pure _)
theorem digests_row (a0 : ByteArray) (l1 l2 : List S108) (h0 : a0.size ≤ 140737488351232) (h1 : ∀ x ∈ l1, x.f0.size ≤ 140737488351232 ∧ x.f1.size ≤ 140737488351232) (h2 : ∀ x ∈ l2, x.f0.size ≤ 140737488351232 ∧ x.f1.size ≤ 140737488351232) : Gets (fun k => provenderlaw2_PurlDigestsMatchSpec.f k a0 l1 l2) true :=
 digests_true a0 l1 l2 h0 (fun x hx => (h1 x hx).2) (fun x hx => (h2 x hx).2)
end Go.Proofs.YtmnfjbmhlabdaaaDoor.Pr
