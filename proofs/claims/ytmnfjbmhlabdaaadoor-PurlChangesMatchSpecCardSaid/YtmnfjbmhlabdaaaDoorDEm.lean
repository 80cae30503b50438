/- slices.BinarySearchFunc of pairs by their names: how many names come ahead, and whether the name is there. Conditions: the list is in order. -/
import Derived.Test.YtmnfjbmhlabdaaaDoorDXa
import Derived.Test.YtmnfjbmhlabdaaaDoorDPrx0
import Derived.Deep.LoopGhost
namespace Go.Proofs.YtmnfjbmhlabdaaaDoor.Pr
open Go.RowKit Go.Proofs.YtmnfjbmhlabdaaaDoorW.PrintWords Go.Proofs.YtmnfjbmhlabdaaaDoorW.PrintLast Go.Proofs.YtmnfjbmhlabdaaaDoorW.PrintMore
set_option linter.unusedSimpArgs false
set_option linter.unusedVariables false
theorem bless_irrefl : ∀ a : List UInt8, Op.bytesLess a a = false
 | [] => rfl
 | c :: r => by
  simp only [Op.bytesLess, bless_irrefl r, Bool.and_false, Bool.or_false]
  exact zl (UInt8.lt_irrefl c)
theorem bless_trans : ∀ {a b c : List UInt8}, Op.bytesLess a b = true → Op.bytesLess b c = true → Op.bytesLess a c = true
 | a :: x, b :: y, c :: z, h1, h2 => by
  simp only [Op.bytesLess, Bool.or_eq_true, Bool.and_eq_true, decide_eq_true_eq, yc] at *
  rcases h1 with h1 | ⟨rfl, h1⟩
  ·rcases h2 with h2 | ⟨rfl, h2⟩
   ·exact .inl (UInt8.lt_trans h1 h2)
   ·exact .inl h1
  ·rcases h2 with h2 | ⟨rfl, h2⟩
   ·exact .inl h2
   ·exact .inr ⟨rfl, bless_trans h1 h2⟩
 | [], _ :: _, _ :: _, _, _ => rfl
 | [], [], _, h1, _ => by simp [Op.bytesLess] at h1
 | _ :: _, [], _, h1, _ => by simp [Op.bytesLess] at h1
 | _, _ :: _, [], _, h2 => by simp [Op.bytesLess] at h2
def Srt (l : List S64) : Prop := l.Pairwise fun a b => Op.bytesLess a.f0.toList b.f0.toList = true
theorem rd64_get (l : List S64) (i : Nat) (h : i < l.length) : rd_T64 l (i : Int) = l[i] := by
 unfold rd_T64
 rw [Int.toNat_natCast, List.getD_eq_getElem?_getD, List.getElem?_eq_getElem h]
 rfl
section
variable (nm vl : ByteArray)
def lowQ (l : List S64) : Nat := (l.takeWhile fun q => Op.bytesLess q.f0.toList nm.toList).length
def hasQ (l : List S64) : Bool := decide (lowQ nm l < l.length ∧ (rd_T64 l (lowQ nm l : Int)).f0.toList = nm.toList)
def setQ (l : List S64) : List S64 :=
 if hasQ nm l = true then (if vl.toList = [] then l.take (lowQ nm l) ++ l.drop (lowQ nm l + 1) else l.set (lowQ nm l) ⟨(rd_T64 l (lowQ nm l : Int)).f0, vl⟩)
 else if vl.toList = [] then l else l.take (lowQ nm l) ++ ⟨nm, vl⟩ :: l.drop (lowQ nm l)
theorem lowQ_le (l : List S64) : lowQ nm l ≤ l.length := by
 unfold lowQ
 exact (List.takeWhile_prefix _).length_le
theorem lowQ_cons (q : S64) (r : List S64) : lowQ nm (q :: r) = if Op.bytesLess q.f0.toList nm.toList = true then lowQ nm r + 1 else 0 := by
 unfold lowQ
 rw [List.takeWhile_cons]
 split <;> rfl
theorem rd64_cons (q : S64) (r : List S64) (i : Nat) : rd_T64 (q :: r) ((i + 1 : Nat) : Int) = rd_T64 r (i : Int) := by
 unfold rd_T64
 rw [Int.toNat_natCast, Int.toNat_natCast, List.getD_cons_succ]
theorem lowQ_at : ∀ (l : List S64) (lo : Nat), lo ≤ l.length → (∀ t, t < lo → Op.bytesLess (rd_T64 l (t : Int)).f0.toList nm.toList = true) → (lo < l.length → ¬ Op.bytesLess (rd_T64 l (lo : Int)).f0.toList nm.toList = true) → lowQ nm l = lo
 | [], lo, h, _, _ => by
  have : lo = 0 := Nat.le_zero.1 h
  subst this
  rfl
 | q :: r, lo, h, h1, h2 => by
  rw [lowQ_cons]
  cases lo with
  | zero =>
   have h20 : ¬ Op.bytesLess q.f0.toList nm.toList = true := h2 (Nat.succ_pos _)
   exact if_neg h20
  | succ lo =>
   have h10 : Op.bytesLess q.f0.toList nm.toList = true := h1 0 (Nat.succ_pos _)
   rw [if_pos h10]
   congr 1
   refine lowQ_at r lo (Nat.le_of_succ_le_succ h) (fun t ht => ?_) (fun hl => ?_)
   ·have := h1 (t + 1) (by omega)
    rw [rd64_cons] at this
    exact this
   ·have := h2 (by rw [List.length_cons]; omega)
    rw [rd64_cons] at this
    exact this
theorem srt_le {l : List S64} (hs : Srt l) {a b : Nat} (hab : a ≤ b) (hb : b < l.length) (h : Op.bytesLess (rd_T64 l (b : Int)).f0.toList nm.toList = true) : Op.bytesLess (rd_T64 l (a : Int)).f0.toList nm.toList = true := by
 rcases Nat.lt_or_ge a b with h1 | h1
 ·have := List.pairwise_iff_getElem.1 hs a b (by omega) hb h1
  rw [rd64_get l a (by omega)]
  rw [rd64_get l b hb] at h
  exact bless_trans this h
 ·obtain rfl : a = b := by omega
  exact h
end
end Go.Proofs.YtmnfjbmhlabdaaaDoor.Pr
namespace Go.Proofs.YtmnfjbmhlabdaaaDoor.Pr
open Go.RowKit Go.Proofs.YtmnfjbmhlabdaaaDoorW.PrintWords Go.Proofs.YtmnfjbmhlabdaaaDoorW.PrintLast Go.Proofs.YtmnfjbmhlabdaaaDoorW.PrintMore
set_option linter.unusedSimpArgs false
set_option linter.unusedVariables false
theorem gtr_s (t : TypeId) (a b : ByteArray) : binOp .gtr t (.string a) (.string b) = pure (.bool !(Op.bytesLess a.toList b.toList || a.toList == b.toList)) := by simp [binOp, Op.stringOp]
attribute [local go_sem] gtr_s
theorem geq_s (t : TypeId) (a b : ByteArray) : binOp .geq t (.string a) (.string b) = pure (.bool !(Op.bytesLess a.toList b.toList)) := by simp [binOp, Op.stringOp]
theorem cmp_nan_s (x : ByteArray) (w : World) : Calls Tryd.prog 99 #[.string x] w fun e w' => e = .returned (.bool false) ∧ w' = w := by
 go_enter Tryd.func99, Tryd.ntmps99
 go_wp2
 go_ret
 exact ⟨by simp, rfl⟩
def cmpI (x y : ByteArray) : Int := if Op.bytesLess x.toList y.toList = true then -1 else if x.toList = y.toList then 0 else 1
theorem cmpI_lt (x y : ByteArray) : decide (cmpI x y < 0) = Op.bytesLess x.toList y.toList := by
 unfold cmpI
 by_cases h : Op.bytesLess x.toList y.toList = true
 ·rw [if_pos h, h]; rfl
 ·rw [if_neg h]
  rw [Bool.not_eq_true] at h
  rw [h]
  split <;> rfl
theorem cmpI_eq (x y : ByteArray) : decide (cmpI x y = 0) = decide (x.toList = y.toList) := by
 unfold cmpI
 by_cases h : x.toList = y.toList
 ·rw [if_neg (by rw [h, bless_irrefl]; decide), if_pos h, zk h]; rfl
 ·rw [zl h]
  split
  ·rfl
  ·rfl
set_option maxHeartbeats 1000000 in
set_option maxRecDepth 100000 in
theorem cmp_s (x y : ByteArray) (w : World) : Calls Tryd.prog 49 #[.string x, .string y] w fun e w' => e = .returned (.int .i64 (cmpI x y)) ∧ w' = w := by
 unfold cmpI
 by_cases h : Op.bytesLess x.toList y.toList = true
 ·rw [if_pos h]
  go_enter Tryd.func49, Tryd.ntmps49
  go_wp2_with (go_at_call 99; refine (cmp_nan_s _ _).mono ?_; rintro e w' ⟨rfl, rfl⟩)
  go_ret
  exact ⟨rfl, rfl⟩
 ·rw [if_neg h]
  rw [Bool.not_eq_true] at h
  by_cases h2 : x.toList = y.toList
  ·rw [if_pos h2]
   have h3 : (x.toList == y.toList) = true := yc.mpr h2
   clear h2
   go_enter Tryd.func49, Tryd.ntmps49
   go_wp2_with (go_at_call 99; refine (cmp_nan_s _ _).mono ?_; rintro e w' ⟨rfl, rfl⟩)
   go_ret
   exact ⟨rfl, rfl⟩
  ·rw [if_neg h2]
   have h3 : (x.toList == y.toList) = false := ye.mpr h2
   clear h2
   go_enter Tryd.func49, Tryd.ntmps49
   go_wp2_with (go_at_call 99; refine (cmp_nan_s _ _).mono ?_; rintro e w' ⟨rfl, rfl⟩)
   go_ret
   exact ⟨rfl, rfl⟩
set_option maxHeartbeats 1000000 in
set_option maxRecDepth 100000 in
theorem cmp_pair (q : S64) (nm : ByteArray) (w : World) : Calls Tryd.prog 73 #[.agg #[.string q.f0, .string q.f1], .string nm] w fun e w' => e = .returned (.int .i64 (cmpI q.f0 nm)) ∧ Below w.heap.size w w' := by
 go_enter Tryd.func73, Tryd.ntmps73
 go_wp2_with (go_at_call 49; refine (cmp_s _ _ _).mono ?_; rintro e w' ⟨rfl, rfl⟩)
 go_ret
 exact ⟨rfl, zd (Below.refl _ _) _⟩
set_option maxHeartbeats 4000000 in
set_option maxRecDepth 100000 in
theorem bs_none (A : Option Addr) (c : Nat) (nm : ByteArray) (w : World) : Calls Tryd.prog 72 #[.slice A 0 c, .string nm, .func (.func 73) #[] #[]] w fun e w' => e = .returned (.tuple #[.int .i64 0, .bool false]) ∧ Below w.heap.size w w' := by
 go_enter Tryd.func72, Tryd.ntmps72
 go_wp2
 go_loopg [9, 10] 0 (fun g s9 s10 wr => s9 = .int .i64 0 ∧ s10 = .int .i64 0 ∧ Aq (Below w.heap.size w wr))
 case atStart => exact ⟨rfl, rfl, ⟨Below.refl _ _⟩⟩
 case round =>
  obtain ⟨rfl, rfl, hb⟩ := hrel
  go_wp2
  go_ret2
  exact ⟨rfl, hb.out⟩
set_option maxHeartbeats 4000000 in
set_option maxRecDepth 100000 in
theorem bs_pairs (b c : Nat) (l : List S64) (nm : ByteArray) (w : World) (hb : b < w.heap.size) (hbig : l.length ≤ 1000) (hs : Srt l)
  (hc : ∀ j, j < l.length → w.cell? ⟨b, j * 2, none⟩ = some (.string (rd_T64 l (j : Int)).f0) ∧ w.cell? ⟨b, j * 2 + 1, none⟩ = some (.string (rd_T64 l (j : Int)).f1)) :
  Calls Tryd.prog 72 #[.slice (some ⟨b, 0, none⟩) l.length c, .string nm, .func (.func 73) #[] #[]] w fun e w' => e = .returned (.tuple #[.int .i64 (lowQ nm l : Nat), .bool (hasQ nm l)]) ∧ Below w.heap.size w w' := by
 obtain ⟨n, hn⟩ : ∃ n, n = l.length := ⟨_, rfl⟩
 have NN := Aq.mk hn
 rw [← hn] at hbig hc ⊢
 clear hn
 have HS := Aq.mk hs
 have HC := Aq.mk hc
 have HBW := Aq.mk hb
 clear hs hc hb
 go_enter Tryd.func72, Tryd.ntmps72
 go_wp2
 go_loopg [9, 10] n (fun g s9 s10 wr => ∃ lo hi : Nat, s9 = .int .i64 lo ∧ s10 = .int .i64 hi ∧ lo ≤ hi ∧ hi ≤ n ∧ hi - lo ≤ g ∧ Aq (Below w.heap.size w wr) ∧ Aq (∀ t : Nat, t < lo → Op.bytesLess (rd_T64 l (t : Int)).f0.toList nm.toList = true) ∧ Aq (∀ t : Nat, hi ≤ t → t < n → ¬ Op.bytesLess (rd_T64 l (t : Int)).f0.toList nm.toList = true))
 case atStart => exact ⟨0, n, rfl, rfl, Nat.zero_le _, Nat.le_refl _, by omega, ⟨Below.refl _ _⟩, ⟨fun t ht => absurd ht (Nat.not_lt_zero _)⟩, ⟨fun t h1 h2 => by omega⟩⟩
 case round =>
  obtain ⟨lo, hi, rfl, rfl, hlh, hin, hg, BW, I1, I2⟩ := hrel
  by_cases hlt : lo < hi
  ·have cm0 : wr.cell? ⟨b, (lo + hi) / 2 * 2, none⟩ = some (.string (rd_T64 l (((lo + hi) / 2 : Nat) : Int)).f0) := (BW.out.cell (p := ⟨b, _, none⟩) HBW.out).trans (HC.out _ (by omega)).1
   have cm1 : wr.cell? ⟨b, (lo + hi) / 2 * 2 + 1, none⟩ = some (.string (rd_T64 l (((lo + hi) / 2 : Nat) : Int)).f1) := (BW.out.cell (p := ⟨b, _, none⟩) HBW.out).trans (HC.out _ (by omega)).2
   have hcall := fun W => cmp_pair (rd_T64 l (((lo + hi) / 2 : Nat) : Int)) nm W
   have hlt0 := cmpI_lt (rd_T64 l (((lo + hi) / 2 : Nat) : Int)).f0 nm
   generalize hy : rd_T64 l (((lo + hi) / 2 : Nat) : Int) = y at cm0 cm1 hcall hlt0
   have Y := Aq.mk hy
   clear hy
   generalize hz : cmpI y.f0 nm = z at hcall hlt0
   have Z := Aq.mk hz
   clear hz
   by_cases hyx : Op.bytesLess y.f0.toList nm.toList = true
   ·have hzz : z < 0 := zj (hlt0.trans hyx)
    clear hlt0
    go_upto_region 5 with (fail)
    obtain ⟨m, hm⟩ : ∃ m, m = (lo + hi) / 2 := ⟨_, rfl⟩
    have hmi : ((lo : Int) + (hi : Int)) / 2 = (m : Int) := by omega
    rw [← hm] at cm0 cm1
    have Y := Aq.mk (show rd_T64 l (m : Int) = y by rw [hm]; exact Y.out)
    have pi := eq_true (show (0 : Int) ≤ (m : Int) by omega)
    have qi := eq_true (show (m : Int) < (n : Int) by omega)
    rw [hmi]
    have HM := Aq.mk hm
    clear hm hmi
    go_wp2_with (go_at_call 73; refine (hcall _).mono ?_; rintro e w' ⟨rfl, hb'⟩)
    have hmm := HM.out
    go_roundg (hi - (m + 1))
    case measure => omega
    case rel =>
     refine ⟨m + 1, hi, congrArg _ (show wrap64 ((m : Int) + 1) = ((m + 1 : Nat) : Int) by unfold wrap64; omega), rfl, by omega, hin, Nat.le_refl _, ⟨zv BW.out hb'⟩, ⟨fun t ht => ?_⟩, I2⟩
     refine srt_le nm HS.out (b := m) (by omega) (by have := NN.out; omega) ?_
     rw [Y.out]
     exact hyx
   ·have hzz : ¬ z < 0 := fun h => hyx (hlt0.symm.trans (zk h))
    clear hlt0
    go_upto_region 5 with (fail)
    obtain ⟨m, hm⟩ : ∃ m, m = (lo + hi) / 2 := ⟨_, rfl⟩
    have hmi : ((lo : Int) + (hi : Int)) / 2 = (m : Int) := by omega
    rw [← hm] at cm0 cm1
    have Y := Aq.mk (show rd_T64 l (m : Int) = y by rw [hm]; exact Y.out)
    have pi := eq_true (show (0 : Int) ≤ (m : Int) by omega)
    have qi := eq_true (show (m : Int) < (n : Int) by omega)
    rw [hmi]
    have HM := Aq.mk hm
    clear hm hmi
    go_wp2_with (go_at_call 73; refine (hcall _).mono ?_; rintro e w' ⟨rfl, hb'⟩)
    have hmm := HM.out
    go_roundg (m - lo)
    case measure => omega
    case rel =>
     refine ⟨lo, m, rfl, rfl, by omega, by omega, Nat.le_refl _, ⟨zv BW.out hb'⟩, I1, ⟨fun t ht htn h => ?_⟩⟩
     have := srt_le nm HS.out (a := m) ht (by have := NN.out; omega) h
     rw [Y.out] at this
     exact hyx this
  ·have : hi = lo := by omega
   subst this
   have E : Aq (lowQ nm l = hi) := ⟨lowQ_at nm l hi (by have := NN.out; omega) I1.out (fun h => I2.out hi (Nat.le_refl _) (by have := NN.out; omega))⟩
   have E2 : Aq (hasQ nm l = decide (hi < n ∧ (rd_T64 l (hi : Int)).f0.toList = nm.toList)) := ⟨by unfold hasQ; rw [E.out, NN.out]⟩
   by_cases hn : hi < n
   ·have cm0 : wr.cell? ⟨b, hi * 2, none⟩ = some (.string (rd_T64 l (hi : Int)).f0) := (BW.out.cell (p := ⟨b, _, none⟩) HBW.out).trans (HC.out _ hn).1
    have cm1 : wr.cell? ⟨b, hi * 2 + 1, none⟩ = some (.string (rd_T64 l (hi : Int)).f1) := (BW.out.cell (p := ⟨b, _, none⟩) HBW.out).trans (HC.out _ hn).2
    have hcall := fun W => cmp_pair (rd_T64 l (hi : Int)) nm W
    have heq0 := cmpI_eq (rd_T64 l (hi : Int)).f0 nm
    generalize hy : rd_T64 l (hi : Int) = y at cm0 cm1 hcall heq0
    have Y := Aq.mk hy
    clear hy
    generalize hz : cmpI y.f0 nm = z at hcall heq0
    have Z := Aq.mk hz
    clear hz
    by_cases hyx : y.f0.toList = nm.toList
    ·have hzz : z = 0 := zj (heq0.trans (zk hyx))
     clear heq0
     subst hzz
     go_wp2_with (go_at_call 73; refine (hcall _).mono ?_; rintro e w' ⟨rfl, hb'⟩)
     go_ret2
     refine ⟨?_, zv BW.out hb'⟩
     rw [E.out, E2.out, Y.out, zk (show hi < n ∧ y.f0.toList = nm.toList from ⟨hn, hyx⟩)]
     first | rfl | simp [*]
    ·have hzz : ¬ z = 0 := fun h => hyx (zj (heq0.symm.trans (zk h)))
     have hzb : (z == 0) = false := ye.mpr hzz
     clear heq0
     go_wp2_with (go_at_call 73; refine (hcall _).mono ?_; rintro e w' ⟨rfl, hb'⟩)
     go_ret2
     refine ⟨?_, zv BW.out hb'⟩
     rw [E.out, E2.out, Y.out, zl (show ¬ (hi < n ∧ y.f0.toList = nm.toList) from fun h => hyx h.2)]
     first | rfl | simp [*]
   ·go_wp2
    go_ret2
    refine ⟨?_, BW.out⟩
    rw [E.out, E2.out, zl (show ¬ (hi < n ∧ (rd_T64 l (hi : Int)).f0.toList = nm.toList) from fun h => hn h.1)]
    first | rfl | simp [*]
end Go.Proofs.YtmnfjbmhlabdaaaDoor.Pr
