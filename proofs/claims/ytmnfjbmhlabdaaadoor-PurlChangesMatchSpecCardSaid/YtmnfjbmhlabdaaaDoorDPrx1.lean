-- Written by a program of the session (wip/pr.py) out of the translation; Lean checks it.
import Derived.Test.YtmnfjbmhlabdaaaDoorDXa
import Derived.Test.YtmnfjbmhlabdaaaDoorDPrx0
import Derived.Test.YtmnfjbmhlabdaaaDoorDEc
namespace Go.Proofs.YtmnfjbmhlabdaaaDoor.Pr
open Go.RowKit Go.Proofs.YtmnfjbmhlabdaaaDoorW.PrintWords Go.Proofs.YtmnfjbmhlabdaaaDoorW.PrintLast Go.Proofs.YtmnfjbmhlabdaaaDoorW.PrintMore
attribute [local go_sem] max2_int min2_int max_two min_two max_three min_three max_four min_four
set_option linter.unusedVariables false
set_option linter.unusedSimpArgs false
mutual
def purl_long.l0 : Nat → List ByteArray → Int → Int → ByteArray → ByteArray → ByteArray → ByteArray → List (S64) → ByteArray → Option (Bool)
 | 0, _, _, _, _, _, _, _, _, _ => none
 | k + 1, x15, x16, x17, x102000, x102001, x102002, x102003, x102004, x102005 => if x17 < x16 then (if 0 ≤ x17 then (if x17 < (x15.length : Int) then (if ((rdOf ByteArray.empty x15 x17).size : Int) > 200 then (some true) else (purl_long.l0 k x15 x16 (wrap64 (x17 + 1)) x102000 x102001 x102002 x102003 x102004 x102005)) else (none)) else (none)) else (purl_long.l1 k x102004 (x102004.length : Int) 0 x102000 x102001 x102002 x102003 x102004 x102005)
def purl_long.l1 : Nat → List (S64) → Int → Int → ByteArray → ByteArray → ByteArray → ByteArray → List (S64) → ByteArray → Option (Bool)
 | 0, _, _, _, _, _, _, _, _, _ => none
 | k + 1, x26, x27, x28, x102000, x102001, x102002, x102003, x102004, x102005 => if x28 < x27 then (if 0 ≤ x28 then (if x28 < (x26.length : Int) then (if (((rd_T64 x26 x28).f0).size : Int) > 200 then (some true) else (if (((rd_T64 x26 x28).f1).size : Int) > 200 then (some true) else (purl_long.l1 k x26 x27 (wrap64 (x28 + 1)) x102000 x102001 x102002 x102003 x102004 x102005))) else (none)) else (none)) else (some (decide ((x102004.length : Int) > 10)))
end
def purl_long.f (k : Nat) (a0_0 : ByteArray) (a0_1 : ByteArray) (a0_2 : ByteArray) (a0_3 : ByteArray) (l0_4 : List (S64)) (a0_5 : ByteArray) : Option (Bool) := (some (([a0_1, a0_2, a0_3, a0_5] : List ByteArray) : List ByteArray)).bind fun y102 => (purl_long.l0 k y102 (y102.length : Int) 0 a0_0 a0_1 a0_2 a0_3 l0_4 a0_5)
theorem purl_long.mono_l : ∀ k, (∀ y0 y1 y2 y3 y4 y5 y6 y7 y8, LeO (purl_long.l0 k y0 y1 y2 y3 y4 y5 y6 y7 y8) (purl_long.l0 (k + 1) y0 y1 y2 y3 y4 y5 y6 y7 y8)) ∧ (∀ y0 y1 y2 y3 y4 y5 y6 y7 y8, LeO (purl_long.l1 k y0 y1 y2 y3 y4 y5 y6 y7 y8) (purl_long.l1 (k + 1) y0 y1 y2 y3 y4 y5 y6 y7 y8))
 | 0 => ⟨fun _ _ _ _ _ _ _ _ _ r h => by simp [purl_long.l0] at h, fun _ _ _ _ _ _ _ _ _ r h => by simp [purl_long.l1] at h⟩
 | k + 1 => by
  obtain ⟨ih0, ih1⟩ := purl_long.mono_l k
  refine ⟨?_, ?_⟩
  ·intro y0 y1 y2 y3 y4 y5 y6 y7 y8
   unfold purl_long.l0
   repeat' first
   | (with_reducible exact ya _)
   | (with_reducible exact yb _)
   | (with_reducible refine zZ ?_ ?_)
   | (with_reducible refine zY ?_ (fun _ => ?_))
   | exact ih0 _ _ _ _ _ _ _ _ _
   | exact ih1 _ _ _ _ _ _ _ _ _
   | exact yb _
   | refine zZ ?_ ?_
   | refine zY ?_ (fun _ => ?_)
  ·intro y0 y1 y2 y3 y4 y5 y6 y7 y8
   unfold purl_long.l1
   repeat' first
   | (with_reducible exact ya _)
   | (with_reducible exact yb _)
   | (with_reducible refine zZ ?_ ?_)
   | (with_reducible refine zY ?_ (fun _ => ?_))
   | exact ih0 _ _ _ _ _ _ _ _ _
   | exact ih1 _ _ _ _ _ _ _ _ _
   | exact yb _
   | refine zZ ?_ ?_
   | refine zY ?_ (fun _ => ?_)
theorem purl_long.mono : ∀ a0 a1 a2 a3 a4 a5 k, LeO (purl_long.f k a0 a1 a2 a3 a4 a5) (purl_long.f (k + 1) a0 a1 a2 a3 a4 a5) := by
 intro a0 a1 a2 a3 a4 a5 k
 obtain ⟨ih0, ih1⟩ := purl_long.mono_l k
 unfold purl_long.f
 repeat' first
   | (with_reducible exact ya _)
   | (with_reducible exact yb _)
   | (with_reducible refine zZ ?_ ?_)
   | (with_reducible refine zY ?_ (fun _ => ?_))
   | exact ih0 _ _ _ _ _ _ _ _ _
   | exact ih1 _ _ _ _ _ _ _ _ _
   | exact yb _
   | refine zZ ?_ ?_
   | refine zY ?_ (fun _ => ?_)
set_option maxHeartbeats 8000000 in
set_option maxRecDepth 100000 in
theorem purl_long.calls (k : Nat) (a0_0 : ByteArray) (a0_1 : ByteArray) (a0_2 : ByteArray) (a0_3 : ByteArray) (A0_4 : Option Addr) (c0_4 : Nat) (l0_4 : List (S64)) (a0_5 : ByteArray) (r : Bool) (w : World) (hr0_4 : Kd.C k64 w A0_4 l0_4.length l0_4) (hc0_4 : l0_4.length ≤ c0_4) (h : purl_long.f k a0_0 a0_1 a0_2 a0_3 l0_4 a0_5 = some r) :
  Calls Tryd.prog 66 #[.agg #[.string a0_0, .string a0_1, .string a0_2, .string a0_3, .slice A0_4 l0_4.length c0_4, .string a0_5]] w fun e w' => e = .returned (.bool r) ∧ Below w.heap.size w w' := by
 have hu24 := Tryd.underlying24
 have hu64 := Tryd.underlying64
 have HR0_4 := Aq.mk hr0_4
 have HC0_4 := Aq.mk hc0_4
 clear hr0_4 hc0_4
 have HB := Aq.mk (Below.refl w.heap.size w)
 have H : ((some (([a0_1, a0_2, a0_3, a0_5] : List ByteArray) : List ByteArray)).bind fun y102 => (purl_long.l0 k y102 (y102.length : Int) 0 a0_0 a0_1 a0_2 a0_3 l0_4 a0_5)) = some r := h
 clear h
 obtain ⟨y102, hy102⟩ : ∃ y_ : List ByteArray, y_ = (([a0_1, a0_2, a0_3, a0_5] : List ByteArray)) := ⟨_, rfl⟩
 replace H : (purl_long.l0 k y102 (y102.length : Int) 0 a0_0 a0_1 a0_2 a0_3 l0_4 a0_5) = some r := by first | (rw [hy102]; with_reducible exact H) | (have H2_ := (Option.bind_some _ _).symm.trans H; rw [hy102]; with_reducible exact H2_) | (have H2_ := (Option.bind_some _ _).symm.trans H; with_reducible exact H2_) | with_reducible exact H | (rw [hy102]; exact H) | exact H
 have Ny102 := Aq.mk hy102
 clear hy102
 have H' := Aq.mk H
 clear H
 go_enter Tryd.func66, Tryd.ntmps66
 go_wp2_with (first | ((with_reducible refine gate_dst (N := 1) rfl ?_); (try (refine gate_guard (by rfl) ?_; dsimp only)); refine box_event ?hg (N := 1) ?hd (cs := #[.string a0_0, .string a0_1, .string a0_2, .string a0_3, .slice A0_4 l0_4.length c0_4, .string a0_5]) (t := 24) ?hr ?_; (case hd => rfl); (case hg => rfl); (case hr => first | (go_simp; done) | (go_simp; rfl)); intro gb101 hg w2 hbox hb; have n0_ := Aq.mk (zv (by repeat (first | (with_reducible first | exact HB.out | apply zd | apply zb | apply zc) | exact HB.out)) hb); have n1_ := Aq.mk (hbox); have n2_ := Aq.mk ((by rw [hg]; exact (zz (by repeat (first | (with_reducible first | exact HB.out | apply zd | apply zb | apply zc) | exact HB.out))) : w.heap.size ≤ gb101)); have n3_ := Aq.mk ((by rw [hg]; exact (zz (by repeat (first | (with_reducible first | exact HB.out | apply zd | apply zb | apply zc) | exact HB.out))) : w.heap.size ≤ gb101)); clear HB; have HB := n0_; have BK101 := n1_; have GW101 := n2_; have GE101 := n3_; clear n0_ n1_ n2_ n3_; clear hb hbox hg; have hcz3_0 : w2.cell? ⟨gb101, 0, none⟩ = some (.string a0_0) := (ze BK101.out 0).trans rfl; have hcz3_1 : w2.cell? ⟨gb101, 1, none⟩ = some (.string a0_1) := (ze BK101.out 1).trans rfl; have hcz3_2 : w2.cell? ⟨gb101, 2, none⟩ = some (.string a0_2) := (ze BK101.out 2).trans rfl; have hcz3_3 : w2.cell? ⟨gb101, 3, none⟩ = some (.string a0_3) := (ze BK101.out 3).trans rfl; have hcz3_4 : w2.cell? ⟨gb101, 4, none⟩ = some (.slice A0_4 l0_4.length c0_4) := (ze BK101.out 4).trans rfl; have hcz3_5 : w2.cell? ⟨gb101, 5, none⟩ = some (.string a0_5) := (ze BK101.out 5).trans rfl; have hfz3_0 := za BK101.out 0; have hfz3_1 := za BK101.out 1; have hfz3_2 := za BK101.out 2; have hfz3_3 := za BK101.out 3; have hfz3_4 := za BK101.out 4; have hfz3_5 := za BK101.out 5) | ((with_reducible refine gate_dst (N := 15) rfl ?_); (try (refine gate_guard (by rfl) ?_; dsimp only)); refine Kd.R_lit Kd.string _ 9 ?hg (N := 15) ?hd (xs := ([a0_1, a0_2, a0_3, a0_5] : List ByteArray)) (inner := [.string a0_1, .string a0_2, .string a0_3, .string a0_5]) (ok := fun _ => True) (okp := fun _ => True) ?hr ?hp (fun _ hk => hk) trivial (Below.refl _ _) (Nat.le_refl _) (by simp) ?_; (case hd => rfl); (case hg => rfl); (case hr => first | (go_simp; done) | (go_simp; rfl)); (case hp => exact (Reps.one (show Kd.M Kd.string _ _ _ a0_1 [.string a0_1] from rfl) (Reps.one (show Kd.M Kd.string _ _ _ a0_2 [.string a0_2] from rfl) (Reps.one (show Kd.M Kd.string _ _ _ a0_3 [.string a0_3] from rfl) (Reps.one (show Kd.M Kd.string _ _ _ a0_5 [.string a0_5] from rfl) (Reps.none _ _)))))); intro v103 w4 ho5 hb hg_ hnew_; clear hg_ hnew_; (first | rw [← Ny102.out] at ho5 | (simp only [Int.reduceToNat] at ho5; rw [← Ny102.out] at ho5)); have n0_ := Aq.mk (zX ho5 (zz (by repeat (first | (with_reducible first | exact HB.out | apply zd | apply zb | apply zc | refine zf ?_ GE101.out) | exact HB.out)))); have n1_ := Aq.mk (zw (g := gb101) (o := .cells #[.string a0_0, .string a0_1, .string a0_2, .string a0_3, .slice A0_4 l0_4.length c0_4, .string a0_5] 24 (0, 0)) (by (with_reducible repeat (first | refine zg ?_ _ | refine zi ?_ | refine zh ?_ _)); exact BK101.out) hb); have n2_ := Aq.mk (zv (by repeat (first | (with_reducible first | exact HB.out | apply zd | apply zb | apply zc | refine zf ?_ GE101.out) | exact HB.out)) hb); clear BK101; clear HB; have HO104 := n0_; have BK101 := n1_; have HB := n2_; clear n0_ n1_ n2_; clear hb ho5; obtain ⟨Ao6, co6, eo6⟩ := yi HO104.out; subst eo6))
 go_loopg [17] k (fun kq v17 w' => ∃ (x17_1 : Int), v17 = .int .i64 x17_1 ∧ Aq (purl_long.l0 kq y102 (y102.length : Int) x17_1 a0_0 a0_1 a0_2 a0_3 l0_4 a0_5 = some r) ∧ Aq (kq ≤ k) ∧ Aq (Kd.R Kd.string 9 w' w.heap.size (fun _ => True) (.slice Ao6 y102.length co6) y102) ∧ Aq (w'.heap[gb101]? = some (.cells #[.string a0_0, .string a0_1, .string a0_2, .string a0_3, (.slice A0_4 l0_4.length c0_4), .string a0_5] 24 (0, 0))) ∧ Aq (Below w.heap.size w w'))
 case atStart => exact ⟨(0), (by first | rfl | (simp; done) | (simp [*]; done)), H', ⟨Nat.le_refl _⟩, ⟨by (with_reducible repeat (first | apply zC | apply zB | apply zD)); exact HO104.out⟩, ⟨by (with_reducible repeat (first | refine zg ?_ _ | refine zi ?_ | refine zh ?_ _)); exact BK101.out⟩, ⟨by repeat (first | (with_reducible first | exact HB.out | apply zd | apply zb | apply zc | refine zf ?_ GE101.out) | exact HB.out)⟩⟩
 case round =>
  clear H'
  try clear p2
  try clear c6
  try clear hcz3_0
  try clear hcz3_1
  try clear hcz3_2
  try clear hcz3_3
  try clear hcz3_4
  try clear hcz3_5
  try clear hfz3_0
  try clear hfz3_1
  try clear hfz3_2
  try clear hfz3_3
  try clear hfz3_4
  try clear hfz3_5
  obtain ⟨x17_1, rfl, HA, HK1, HO_15, BK101, HB⟩ := hrel
  cases gk with
  | zero => exact absurd HA.out (by simp [purl_long.l0])
  | succ k1 =>
   have H := HA.out
   clear HA
   simp only [purl_long.l0] at H
   by_cases c7 : x17_1 < (y102.length : Int)
   ·rw [if_pos c7] at H
    have c7b0 : decide (x17_1 < (y102.length : Int)) = true := zk c7
    clear c7
    by_cases c8 : 0 ≤ x17_1
    ·rw [if_pos c8] at H
     have c8b0 : decide (0 ≤ x17_1) = true := zk c8
     clear c8
     by_cases c9 : x17_1 < (y102.length : Int)
     ·rw [if_pos c9] at H
      have c9b0 : decide (x17_1 < (y102.length : Int)) = true := zk c9
      clear c9
      by_cases c10 : ((rdOf ByteArray.empty y102 x17_1).size : Int) > 200
      ·rw [if_pos c10] at H
       have c10b0 : decide (200 < ((rdOf ByteArray.empty y102 x17_1).size : Int)) = true := zk c10
       have c10b1 : decide (200 < (rdOf ByteArray.empty y102 x17_1).size) = true := zk (by omega)
       clear c10
       obtain rfl := yg H
       simp only [zH, zI] at H
       obtain ⟨rfl⟩ := H
       have p105 : 0 ≤ (x17_1 : Int) := zj (by first | (with_reducible assumption) | assumption)
       have q105 : x17_1 < (y102.length : Int) := zj (by first | (with_reducible assumption) | assumption)
       obtain ⟨ad105, e105, hx105_0⟩ := Kd.at_string (Kd.R_reads' HO_15.out).2.2 x17_1 p105 q105
       cases e105
       replace p105 := eq_true p105
       replace q105 := eq_true q105
       go_wp2
       go_ret
       exact ⟨by first | rfl | (simp [yl, ym] <;> rfl) | (simp [*, yl, ym] <;> rfl), by repeat (first | (with_reducible first | exact HB.out | apply zd | apply zb | apply zc | refine zf ?_ GE101.out) | exact HB.out)⟩
      ·rw [if_neg c10] at H
       have c10b0 : decide (200 < ((rdOf ByteArray.empty y102 x17_1).size : Int)) = false := zl c10
       have c10b1 : decide (200 < (rdOf ByteArray.empty y102 x17_1).size) = false := zl (by omega)
       clear c10
       have H' := Aq.mk H
       clear H
       have p105 : 0 ≤ (x17_1 : Int) := zj (by first | (with_reducible assumption) | assumption)
       have q105 : x17_1 < (y102.length : Int) := zj (by first | (with_reducible assumption) | assumption)
       obtain ⟨ad105, e105, hx105_0⟩ := Kd.at_string (Kd.R_reads' HO_15.out).2.2 x17_1 p105 q105
       cases e105
       replace p105 := eq_true p105
       replace q105 := eq_true q105
       go_wp2
       go_roundg k1
       case measure => have := HK1.out; omega
       case rel => exact ⟨(wrap64 (x17_1 + 1)), (by first | rfl | (simp; done) | (simp [*]; done)), H', ⟨by have := HK1.out; omega⟩, ⟨by (with_reducible repeat (first | apply zC | apply zB | apply zD)); exact HO_15.out⟩, ⟨by (with_reducible repeat (first | refine zg ?_ _ | refine zi ?_ | refine zh ?_ _)); exact BK101.out⟩, ⟨by repeat (first | (with_reducible first | exact HB.out | apply zd | apply zb | apply zc | refine zf ?_ GE101.out) | exact HB.out)⟩⟩
     ·rw [if_neg c9] at H
      exact absurd H (by simp)
    ·rw [if_neg c8] at H
     exact absurd H (by simp)
   ·rw [if_neg c7] at H
    have c7b0 : decide (x17_1 < (y102.length : Int)) = false := zl c7
    clear c7
    have H' := Aq.mk H
    clear H
    have hcz11_0 : wr.cell? ⟨gb101, 0, none⟩ = some (.string a0_0) := (ze BK101.out 0).trans rfl
    have hcz11_1 : wr.cell? ⟨gb101, 1, none⟩ = some (.string a0_1) := (ze BK101.out 1).trans rfl
    have hcz11_2 : wr.cell? ⟨gb101, 2, none⟩ = some (.string a0_2) := (ze BK101.out 2).trans rfl
    have hcz11_3 : wr.cell? ⟨gb101, 3, none⟩ = some (.string a0_3) := (ze BK101.out 3).trans rfl
    have hcz11_4 : wr.cell? ⟨gb101, 4, none⟩ = some (.slice A0_4 l0_4.length c0_4) := (ze BK101.out 4).trans rfl
    have hcz11_5 : wr.cell? ⟨gb101, 5, none⟩ = some (.string a0_5) := (ze BK101.out 5).trans rfl
    have hfz11_0 := za BK101.out 0
    have hfz11_1 := za BK101.out 1
    have hfz11_2 := za BK101.out 2
    have hfz11_3 := za BK101.out 3
    have hfz11_4 := za BK101.out 4
    have hfz11_5 := za BK101.out 5
    go_wp2
    go_loopg [28] k1 (fun kq v28 w' => ∃ (x28_2 : Int), v28 = .int .i64 x28_2 ∧ Aq (purl_long.l1 kq l0_4 (l0_4.length : Int) x28_2 a0_0 a0_1 a0_2 a0_3 l0_4 a0_5 = some r) ∧ Aq (kq ≤ k1) ∧ Aq (w'.heap[gb101]? = some (.cells #[.string a0_0, .string a0_1, .string a0_2, .string a0_3, (.slice A0_4 l0_4.length c0_4), .string a0_5] 24 (0, 0))) ∧ Aq (Below w.heap.size w w'))
    case atStart => exact ⟨(0), (by first | rfl | (simp; done) | (simp [*]; done)), H', ⟨Nat.le_refl _⟩, ⟨by (with_reducible repeat (first | refine zg ?_ _ | refine zi ?_ | refine zh ?_ _)); exact BK101.out⟩, ⟨by repeat (first | (with_reducible first | exact HB.out | apply zd | apply zb | apply zc | refine zf ?_ GE101.out) | exact HB.out)⟩⟩
    case round =>
     clear H'
     try clear c1
     try clear p1
     try clear q1
     try clear hx1
     try clear p2
     try clear c6
     try clear p6
     try clear c7
     try clear c7b0
     try clear c8
     try clear c8b0
     try clear c9
     try clear c9b0
     try clear c10
     try clear c10b0
     try clear c10b1
     try clear p10
     try clear q10
     try clear hx10
     try clear hcz11_0
     try clear hcz11_1
     try clear hcz11_2
     try clear hcz11_3
     try clear hcz11_4
     try clear hcz11_5
     try clear hcz3_0
     try clear hcz3_1
     try clear hcz3_2
     try clear hcz3_3
     try clear hcz3_4
     try clear hcz3_5
     try clear hfz11_0
     try clear hfz11_1
     try clear hfz11_2
     try clear hfz11_3
     try clear hfz11_4
     try clear hfz11_5
     try clear hfz3_0
     try clear hfz3_1
     try clear hfz3_2
     try clear hfz3_3
     try clear hfz3_4
     try clear hfz3_5
     try clear hx105_0
     try clear p105
     try clear p2
     try clear q105
     obtain ⟨x28_2, rfl, HA, HK2, BK101, HB⟩ := hrel
     cases gk with
     | zero => exact absurd HA.out (by simp [purl_long.l1])
     | succ k2 =>
      have H := HA.out
      clear HA
      simp only [purl_long.l1] at H
      by_cases c12 : x28_2 < (l0_4.length : Int)
      ·rw [if_pos c12] at H
       have c12b0 : decide (x28_2 < (l0_4.length : Int)) = true := zk c12
       clear c12
       by_cases c13 : 0 ≤ x28_2
       ·rw [if_pos c13] at H
        have c13b0 : decide (0 ≤ x28_2) = true := zk c13
        clear c13
        by_cases c14 : x28_2 < (l0_4.length : Int)
        ·rw [if_pos c14] at H
         have c14b0 : decide (x28_2 < (l0_4.length : Int)) = true := zk c14
         clear c14
         by_cases c15 : (((rd_T64 l0_4 x28_2).f0).size : Int) > 200
         ·rw [if_pos c15] at H
          have c15b0 : decide (200 < (((rd_T64 l0_4 x28_2).f0).size : Int)) = true := zk c15
          have c15b1 : decide (200 < ((rd_T64 l0_4 x28_2).f0).size) = true := zk (by omega)
          clear c15
          obtain rfl := yg H
          simp only [zH, zI] at H
          obtain ⟨rfl⟩ := H
          have p106 : 0 ≤ (x28_2 : Int) := zj (by first | (with_reducible assumption) | assumption)
          have q106 : x28_2 < (l0_4.length : Int) := zj (by first | (with_reducible assumption) | assumption)
          obtain ⟨ad106, e106, hx106_0, hx106_1⟩ := at_T64 HR0_4.out x28_2 p106 q106
          cases e106
          replace hx106_0 := (HB.out.cell (World.block_lt_of_cell? w _ hx106_0)).trans hx106_0
          replace hx106_1 := (HB.out.cell (World.block_lt_of_cell? w _ hx106_1)).trans hx106_1
          replace p106 := eq_true p106
          replace q106 := eq_true q106
          go_wp2_with (first | ((with_reducible refine gate_dst (N := 6) rfl ?_); (try (refine gate_guard (by rfl) ?_; dsimp only)); refine box_event ?hg (N := 6) ?hd (cs := #[.string (⟨#[]⟩ : ByteArray), .string (⟨#[]⟩ : ByteArray)]) (t := 64) ?hr ?_; (case hd => rfl); (case hg => rfl); (case hr => first | (go_simp; done) | (go_simp; rfl)); intro gb107 hg w16 hbox hb; have n0_ := Aq.mk (zw (g := gb101) (o := .cells #[.string a0_0, .string a0_1, .string a0_2, .string a0_3, .slice (some ad106) l0_4.length c0_4, .string a0_5] 24 (0, 0)) (by (with_reducible repeat (first | refine zg ?_ _ | refine zi ?_ | refine zh ?_ _)); exact BK101.out) hb); have n1_ := Aq.mk (zv (by repeat (first | (with_reducible first | exact HB.out | apply zd | apply zb | apply zc | refine zf ?_ GE101.out) | exact HB.out)) hb); have n2_ := Aq.mk (hbox); have n3_ := Aq.mk ((by rw [hg]; exact (zz (by repeat (first | (with_reducible first | exact HB.out | apply zd | apply zb | apply zc | refine zf ?_ GE101.out) | exact HB.out))) : w.heap.size ≤ gb107)); have n4_ := Aq.mk ((by rw [hg]; exact (zz (by repeat (first | (with_reducible first | exact HB.out | apply zd | apply zb | apply zc | refine zf ?_ GE101.out) | exact HB.out))) : w.heap.size ≤ gb107)); have n5_ := Aq.mk ((by rw [hg]; exact Nat.ne_of_lt (zA (g := gb101) (o := .cells #[.string a0_0, .string a0_1, .string a0_2, .string a0_3, .slice (some ad106) l0_4.length c0_4, .string a0_5] 24 (0, 0)) (by (with_reducible repeat (first | refine zg ?_ _ | refine zi ?_ | refine zh ?_ _)); exact BK101.out)) : gb101 ≠ gb107)); have n6_ := Aq.mk ((by rw [hg]; exact Nat.ne_of_gt (zA (g := gb101) (o := .cells #[.string a0_0, .string a0_1, .string a0_2, .string a0_3, .slice (some ad106) l0_4.length c0_4, .string a0_5] 24 (0, 0)) (by (with_reducible repeat (first | refine zg ?_ _ | refine zi ?_ | refine zh ?_ _)); exact BK101.out)) : gb107 ≠ gb101)); clear BK101; clear HB; have BK101 := n0_; have HB := n1_; have BK107 := n2_; have GW107 := n3_; have GE107 := n4_; have NB101_107 := n5_; have NB107_101 := n6_; clear n0_ n1_ n2_ n3_ n4_ n5_ n6_; clear hb hbox hg; have hnb17 := NB107_101.out; have hnc17 := NB101_107.out; have hcz18_0 : w16.cell? ⟨gb107, 0, none⟩ = some (.string (⟨#[]⟩ : ByteArray)) := (ze BK107.out 0).trans rfl; have hcz18_1 : w16.cell? ⟨gb107, 1, none⟩ = some (.string (⟨#[]⟩ : ByteArray)) := (ze BK107.out 1).trans rfl; have hfz18_0 := za BK107.out 0; have hfz18_1 := za BK107.out 1))
          go_ret
          exact ⟨by first | rfl | (simp [yl, ym] <;> rfl) | (simp [*, yl, ym] <;> rfl), by repeat (first | (with_reducible first | exact HB.out | apply zd | apply zb | apply zc | refine zf ?_ GE101.out | refine zf ?_ GE107.out) | exact HB.out)⟩
         ·rw [if_neg c15] at H
          have c15b0 : decide (200 < (((rd_T64 l0_4 x28_2).f0).size : Int)) = false := zl c15
          have c15b1 : decide (200 < ((rd_T64 l0_4 x28_2).f0).size) = false := zl (by omega)
          clear c15
          by_cases c19 : (((rd_T64 l0_4 x28_2).f1).size : Int) > 200
          ·rw [if_pos c19] at H
           have c19b0 : decide (200 < (((rd_T64 l0_4 x28_2).f1).size : Int)) = true := zk c19
           have c19b1 : decide (200 < ((rd_T64 l0_4 x28_2).f1).size) = true := zk (by omega)
           clear c19
           obtain rfl := yg H
           simp only [zH, zI] at H
           obtain ⟨rfl⟩ := H
           have p106 : 0 ≤ (x28_2 : Int) := zj (by first | (with_reducible assumption) | assumption)
           have q106 : x28_2 < (l0_4.length : Int) := zj (by first | (with_reducible assumption) | assumption)
           obtain ⟨ad106, e106, hx106_0, hx106_1⟩ := at_T64 HR0_4.out x28_2 p106 q106
           cases e106
           replace hx106_0 := (HB.out.cell (World.block_lt_of_cell? w _ hx106_0)).trans hx106_0
           replace hx106_1 := (HB.out.cell (World.block_lt_of_cell? w _ hx106_1)).trans hx106_1
           replace p106 := eq_true p106
           replace q106 := eq_true q106
           go_wp2_with (first | ((with_reducible refine gate_dst (N := 6) rfl ?_); (try (refine gate_guard (by rfl) ?_; dsimp only)); refine box_event ?hg (N := 6) ?hd (cs := #[.string (⟨#[]⟩ : ByteArray), .string (⟨#[]⟩ : ByteArray)]) (t := 64) ?hr ?_; (case hd => rfl); (case hg => rfl); (case hr => first | (go_simp; done) | (go_simp; rfl)); intro gb107 hg w20 hbox hb; have n0_ := Aq.mk (zw (g := gb101) (o := .cells #[.string a0_0, .string a0_1, .string a0_2, .string a0_3, .slice (some ad106) l0_4.length c0_4, .string a0_5] 24 (0, 0)) (by (with_reducible repeat (first | refine zg ?_ _ | refine zi ?_ | refine zh ?_ _)); exact BK101.out) hb); have n1_ := Aq.mk (zv (by repeat (first | (with_reducible first | exact HB.out | apply zd | apply zb | apply zc | refine zf ?_ GE101.out) | exact HB.out)) hb); have n2_ := Aq.mk (hbox); have n3_ := Aq.mk ((by rw [hg]; exact (zz (by repeat (first | (with_reducible first | exact HB.out | apply zd | apply zb | apply zc | refine zf ?_ GE101.out) | exact HB.out))) : w.heap.size ≤ gb107)); have n4_ := Aq.mk ((by rw [hg]; exact (zz (by repeat (first | (with_reducible first | exact HB.out | apply zd | apply zb | apply zc | refine zf ?_ GE101.out) | exact HB.out))) : w.heap.size ≤ gb107)); have n5_ := Aq.mk ((by rw [hg]; exact Nat.ne_of_lt (zA (g := gb101) (o := .cells #[.string a0_0, .string a0_1, .string a0_2, .string a0_3, .slice (some ad106) l0_4.length c0_4, .string a0_5] 24 (0, 0)) (by (with_reducible repeat (first | refine zg ?_ _ | refine zi ?_ | refine zh ?_ _)); exact BK101.out)) : gb101 ≠ gb107)); have n6_ := Aq.mk ((by rw [hg]; exact Nat.ne_of_gt (zA (g := gb101) (o := .cells #[.string a0_0, .string a0_1, .string a0_2, .string a0_3, .slice (some ad106) l0_4.length c0_4, .string a0_5] 24 (0, 0)) (by (with_reducible repeat (first | refine zg ?_ _ | refine zi ?_ | refine zh ?_ _)); exact BK101.out)) : gb107 ≠ gb101)); clear BK101; clear HB; have BK101 := n0_; have HB := n1_; have BK107 := n2_; have GW107 := n3_; have GE107 := n4_; have NB101_107 := n5_; have NB107_101 := n6_; clear n0_ n1_ n2_ n3_ n4_ n5_ n6_; clear hb hbox hg; have hnb21 := NB107_101.out; have hnc21 := NB101_107.out; have hcz22_0 : w20.cell? ⟨gb107, 0, none⟩ = some (.string (⟨#[]⟩ : ByteArray)) := (ze BK107.out 0).trans rfl; have hcz22_1 : w20.cell? ⟨gb107, 1, none⟩ = some (.string (⟨#[]⟩ : ByteArray)) := (ze BK107.out 1).trans rfl; have hfz22_0 := za BK107.out 0; have hfz22_1 := za BK107.out 1))
           go_ret
           exact ⟨by first | rfl | (simp [yl, ym] <;> rfl) | (simp [*, yl, ym] <;> rfl), by repeat (first | (with_reducible first | exact HB.out | apply zd | apply zb | apply zc | refine zf ?_ GE101.out | refine zf ?_ GE107.out) | exact HB.out)⟩
          ·rw [if_neg c19] at H
           have c19b0 : decide (200 < (((rd_T64 l0_4 x28_2).f1).size : Int)) = false := zl c19
           have c19b1 : decide (200 < ((rd_T64 l0_4 x28_2).f1).size) = false := zl (by omega)
           clear c19
           have H' := Aq.mk H
           clear H
           have p106 : 0 ≤ (x28_2 : Int) := zj (by first | (with_reducible assumption) | assumption)
           have q106 : x28_2 < (l0_4.length : Int) := zj (by first | (with_reducible assumption) | assumption)
           obtain ⟨ad106, e106, hx106_0, hx106_1⟩ := at_T64 HR0_4.out x28_2 p106 q106
           cases e106
           replace hx106_0 := (HB.out.cell (World.block_lt_of_cell? w _ hx106_0)).trans hx106_0
           replace hx106_1 := (HB.out.cell (World.block_lt_of_cell? w _ hx106_1)).trans hx106_1
           replace p106 := eq_true p106
           replace q106 := eq_true q106
           go_wp2_with (first | ((with_reducible refine gate_dst (N := 6) rfl ?_); (try (refine gate_guard (by rfl) ?_; dsimp only)); refine box_event ?hg (N := 6) ?hd (cs := #[.string (⟨#[]⟩ : ByteArray), .string (⟨#[]⟩ : ByteArray)]) (t := 64) ?hr ?_; (case hd => rfl); (case hg => rfl); (case hr => first | (go_simp; done) | (go_simp; rfl)); intro gb107 hg w23 hbox hb; have n0_ := Aq.mk (zw (g := gb101) (o := .cells #[.string a0_0, .string a0_1, .string a0_2, .string a0_3, .slice (some ad106) l0_4.length c0_4, .string a0_5] 24 (0, 0)) (by (with_reducible repeat (first | refine zg ?_ _ | refine zi ?_ | refine zh ?_ _)); exact BK101.out) hb); have n1_ := Aq.mk (zv (by repeat (first | (with_reducible first | exact HB.out | apply zd | apply zb | apply zc | refine zf ?_ GE101.out) | exact HB.out)) hb); have n2_ := Aq.mk (hbox); have n3_ := Aq.mk ((by rw [hg]; exact (zz (by repeat (first | (with_reducible first | exact HB.out | apply zd | apply zb | apply zc | refine zf ?_ GE101.out) | exact HB.out))) : w.heap.size ≤ gb107)); have n4_ := Aq.mk ((by rw [hg]; exact (zz (by repeat (first | (with_reducible first | exact HB.out | apply zd | apply zb | apply zc | refine zf ?_ GE101.out) | exact HB.out))) : w.heap.size ≤ gb107)); have n5_ := Aq.mk ((by rw [hg]; exact Nat.ne_of_lt (zA (g := gb101) (o := .cells #[.string a0_0, .string a0_1, .string a0_2, .string a0_3, .slice (some ad106) l0_4.length c0_4, .string a0_5] 24 (0, 0)) (by (with_reducible repeat (first | refine zg ?_ _ | refine zi ?_ | refine zh ?_ _)); exact BK101.out)) : gb101 ≠ gb107)); have n6_ := Aq.mk ((by rw [hg]; exact Nat.ne_of_gt (zA (g := gb101) (o := .cells #[.string a0_0, .string a0_1, .string a0_2, .string a0_3, .slice (some ad106) l0_4.length c0_4, .string a0_5] 24 (0, 0)) (by (with_reducible repeat (first | refine zg ?_ _ | refine zi ?_ | refine zh ?_ _)); exact BK101.out)) : gb107 ≠ gb101)); clear BK101; clear HB; have BK101 := n0_; have HB := n1_; have BK107 := n2_; have GW107 := n3_; have GE107 := n4_; have NB101_107 := n5_; have NB107_101 := n6_; clear n0_ n1_ n2_ n3_ n4_ n5_ n6_; clear hb hbox hg; have hnb24 := NB107_101.out; have hnc24 := NB101_107.out; have hcz25_0 : w23.cell? ⟨gb107, 0, none⟩ = some (.string (⟨#[]⟩ : ByteArray)) := (ze BK107.out 0).trans rfl; have hcz25_1 : w23.cell? ⟨gb107, 1, none⟩ = some (.string (⟨#[]⟩ : ByteArray)) := (ze BK107.out 1).trans rfl; have hfz25_0 := za BK107.out 0; have hfz25_1 := za BK107.out 1))
           go_roundg k2
           case measure => have := HK1.out; have := HK2.out; omega
           case rel => exact ⟨(wrap64 (x28_2 + 1)), (by first | rfl | (simp; done) | (simp [*]; done)), H', ⟨by have := HK1.out; have := HK2.out; omega⟩, ⟨by (with_reducible repeat (first | refine zg ?_ _ | refine zi ?_ | refine zh ?_ _)); refine zx ?_ NB101_107.out _; (with_reducible repeat (first | refine zg ?_ _ | refine zi ?_ | refine zh ?_ _)); refine zx ?_ NB101_107.out _; (with_reducible repeat (first | refine zg ?_ _ | refine zi ?_ | refine zh ?_ _)); exact BK101.out⟩, ⟨by repeat (first | (with_reducible first | exact HB.out | apply zd | apply zb | apply zc | refine zf ?_ GE101.out | refine zf ?_ GE107.out) | exact HB.out)⟩⟩
        ·rw [if_neg c14] at H
         exact absurd H (by simp)
       ·rw [if_neg c13] at H
        exact absurd H (by simp)
      ·rw [if_neg c12] at H
       have c12b0 : decide (x28_2 < (l0_4.length : Int)) = false := zl c12
       clear c12
       obtain rfl := yg H
       simp only [zH, zI] at H
       obtain ⟨rfl⟩ := H
       have hcz26_0 : wr.cell? ⟨gb101, 0, none⟩ = some (.string a0_0) := (ze BK101.out 0).trans rfl
       have hcz26_1 : wr.cell? ⟨gb101, 1, none⟩ = some (.string a0_1) := (ze BK101.out 1).trans rfl
       have hcz26_2 : wr.cell? ⟨gb101, 2, none⟩ = some (.string a0_2) := (ze BK101.out 2).trans rfl
       have hcz26_3 : wr.cell? ⟨gb101, 3, none⟩ = some (.string a0_3) := (ze BK101.out 3).trans rfl
       have hcz26_4 : wr.cell? ⟨gb101, 4, none⟩ = some (.slice A0_4 l0_4.length c0_4) := (ze BK101.out 4).trans rfl
       have hcz26_5 : wr.cell? ⟨gb101, 5, none⟩ = some (.string a0_5) := (ze BK101.out 5).trans rfl
       have hfz26_0 := za BK101.out 0
       have hfz26_1 := za BK101.out 1
       have hfz26_2 := za BK101.out 2
       have hfz26_3 := za BK101.out 3
       have hfz26_4 := za BK101.out 4
       have hfz26_5 := za BK101.out 5
       go_wp2
       go_ret
       exact ⟨by first | rfl | (simp [yl, ym] <;> rfl) | (simp [*, yl, ym] <;> rfl), by repeat (first | (with_reducible first | exact HB.out | apply zd | apply zb | apply zc | refine zf ?_ GE101.out) | exact HB.out)⟩
def purl_pathFault.l0 : Nat → List ByteArray → Bool → List ByteArray → Int → Int → Option (Bool)
 | 0, _, _, _, _, _ => none
 | k + 1, x0, x1, x7, x8, x9 => if x9 < x8 then (if 0 ≤ x9 then (if x9 < (x7.length : Int) then (if (rdOf ByteArray.empty x7 x9).toList = ([] : List UInt8) then (some true) else (if x1 = true then (if (rdOf ByteArray.empty x7 x9).toList = ([46] : List UInt8) then (some true) else (if (rdOf ByteArray.empty x7 x9).toList = ([46, 46] : List UInt8) then (some true) else (purl_pathFault.l0 k x0 x1 x7 x8 (wrap64 (x9 + 1))))) else (purl_pathFault.l0 k x0 x1 x7 x8 (wrap64 (x9 + 1))))) else (none)) else (none)) else (some (decide ((x0.length : Int) > 10)))
def purl_pathFault.f (k : Nat) (l0 : List ByteArray) (a1 : Bool) : Option (Bool) := purl_pathFault.l0 k l0 a1 l0 (l0.length : Int) 0
theorem purl_pathFault.mono_l : ∀ k, (∀ y0 y1 y2 y3 y4, LeO (purl_pathFault.l0 k y0 y1 y2 y3 y4) (purl_pathFault.l0 (k + 1) y0 y1 y2 y3 y4))
 | 0 => fun _ _ _ _ _ r h => by simp [purl_pathFault.l0] at h
 | k + 1 => by
  have ih0 := purl_pathFault.mono_l k
  ·intro y0 y1 y2 y3 y4
   unfold purl_pathFault.l0
   repeat' first
   | (with_reducible exact ya _)
   | (with_reducible exact yb _)
   | (with_reducible refine zZ ?_ ?_)
   | (with_reducible refine zY ?_ (fun _ => ?_))
   | exact ih0 _ _ _ _ _
   | exact yb _
   | refine zZ ?_ ?_
   | refine zY ?_ (fun _ => ?_)
theorem purl_pathFault.mono : ∀ a0 a1 k, LeO (purl_pathFault.f k a0 a1) (purl_pathFault.f (k + 1) a0 a1) := by
 intro a0 a1 k
 have ih0 := purl_pathFault.mono_l k
 unfold purl_pathFault.f
 repeat' first
   | (with_reducible exact ya _)
   | (with_reducible exact yb _)
   | (with_reducible refine zZ ?_ ?_)
   | (with_reducible refine zY ?_ (fun _ => ?_))
   | exact ih0 _ _ _ _ _
   | exact yb _
   | refine zZ ?_ ?_
   | refine zY ?_ (fun _ => ?_)
set_option maxHeartbeats 8000000 in
set_option maxRecDepth 100000 in
theorem purl_pathFault.calls (k : Nat) (A0 : Option Addr) (c0 : Nat) (l0 : List ByteArray) (a1 : Bool) (r : Bool) (w : World) (hr0 : Kd.C Kd.string w A0 l0.length l0) (hc0 : l0.length ≤ c0) (h : purl_pathFault.f k l0 a1 = some r) :
  Calls Tryd.prog 67 #[.slice A0 l0.length c0, .bool a1] w fun e w' => e = .returned (.bool r) ∧ Drawn0 w w' := by
 have HR0 := Aq.mk hr0
 have HC0 := Aq.mk hc0
 clear hr0 hc0
 have H : (purl_pathFault.l0 k l0 a1 l0 (l0.length : Int) 0) = some r := h
 clear h
 have H' := Aq.mk H
 clear H
 go_enter Tryd.func67, Tryd.ntmps67
 go_wp2
 go_loopg [9] k (fun kq v9 w' => ∃ (x9_1 : Int), v9 = .int .i64 x9_1 ∧ Aq (purl_pathFault.l0 kq l0 a1 l0 (l0.length : Int) x9_1 = some r) ∧ Aq (kq ≤ k) ∧ Drawn0 w w')
 case atStart => exact ⟨(0), (by first | rfl | (simp; done) | (simp [*]; done)), H', ⟨Nat.le_refl _⟩, by repeat (first | exact zN _ | apply zO)⟩
 case round =>
  clear H'
  try clear p2
  obtain ⟨x9_1, rfl, HA, HK1, ⟨m1, rfl⟩⟩ := hrel
  cases gk with
  | zero => exact absurd HA.out (by simp [purl_pathFault.l0])
  | succ k1 =>
   have H := HA.out
   clear HA
   simp only [purl_pathFault.l0] at H
   by_cases c3 : x9_1 < (l0.length : Int)
   ·rw [if_pos c3] at H
    have c3b0 : decide (x9_1 < (l0.length : Int)) = true := zk c3
    clear c3
    by_cases c4 : 0 ≤ x9_1
    ·rw [if_pos c4] at H
     have c4b0 : decide (0 ≤ x9_1) = true := zk c4
     clear c4
     by_cases c5 : x9_1 < (l0.length : Int)
     ·rw [if_pos c5] at H
      have c5b0 : decide (x9_1 < (l0.length : Int)) = true := zk c5
      clear c5
      by_cases c6 : (rdOf ByteArray.empty l0 x9_1).toList = ([] : List UInt8)
      ·rw [if_pos c6] at H
       have c6b0 : ((rdOf ByteArray.empty l0 x9_1).toList == ([] : List UInt8)) = true := yc.mpr c6
       have c6b1 : ((rdOf ByteArray.empty l0 x9_1).toList != ([] : List UInt8)) = false := yf.mpr c6
       clear c6
       obtain rfl := yg H
       simp only [zH, zI] at H
       obtain ⟨rfl⟩ := H
       have p108 : 0 ≤ (x9_1 : Int) := zj (by first | (with_reducible assumption) | assumption)
       have q108 : x9_1 < (l0.length : Int) := zj (by first | (with_reducible assumption) | assumption)
       obtain ⟨ad108, e108, hx108_0⟩ := Kd.at_string HR0.out x9_1 p108 q108
       cases e108
       replace p108 := eq_true p108
       replace q108 := eq_true q108
       go_wp2
       go_ret
       exact ⟨by first | rfl | (simp; done) | (simp [*]; done), by repeat (first | exact zN _ | apply zO)⟩
      ·rw [if_neg c6] at H
       have c6b0 : ((rdOf ByteArray.empty l0 x9_1).toList == ([] : List UInt8)) = false := ye.mpr c6
       have c6b1 : ((rdOf ByteArray.empty l0 x9_1).toList != ([] : List UInt8)) = true := yd.mpr c6
       by_cases c7 : a1 = true
       ·subst c7
        have H1 : (if (rdOf ByteArray.empty l0 x9_1).toList = ([46] : List UInt8) then (some true) else (if (rdOf ByteArray.empty l0 x9_1).toList = ([46, 46] : List UInt8) then (some true) else (purl_pathFault.l0 k1 l0 true l0 (l0.length : Int) (wrap64 (x9_1 + 1))))) = some r := by rw [if_pos rfl] at H; exact H
        clear H
        have H := H1
        clear H1
        by_cases c8 : (rdOf ByteArray.empty l0 x9_1).toList = ([46] : List UInt8)
        ·rw [if_pos c8] at H
         have c8b0 : ((rdOf ByteArray.empty l0 x9_1).toList == ([46] : List UInt8)) = true := yc.mpr c8
         have c8b1 : ((rdOf ByteArray.empty l0 x9_1).toList != ([46] : List UInt8)) = false := yf.mpr c8
         clear c8
         obtain rfl := yg H
         simp only [zH, zI] at H
         obtain ⟨rfl⟩ := H
         have p108 : 0 ≤ (x9_1 : Int) := zj (by first | (with_reducible assumption) | assumption)
         have q108 : x9_1 < (l0.length : Int) := zj (by first | (with_reducible assumption) | assumption)
         obtain ⟨ad108, e108, hx108_0⟩ := Kd.at_string HR0.out x9_1 p108 q108
         cases e108
         replace p108 := eq_true p108
         replace q108 := eq_true q108
         go_wp2
         go_ret
         exact ⟨by first | rfl | (simp; done) | (simp [*]; done), by repeat (first | exact zN _ | apply zO)⟩
        ·rw [if_neg c8] at H
         have c8b0 : ((rdOf ByteArray.empty l0 x9_1).toList == ([46] : List UInt8)) = false := ye.mpr c8
         have c8b1 : ((rdOf ByteArray.empty l0 x9_1).toList != ([46] : List UInt8)) = true := yd.mpr c8
         by_cases c9 : (rdOf ByteArray.empty l0 x9_1).toList = ([46, 46] : List UInt8)
         ·rw [if_pos c9] at H
          have c9b0 : ((rdOf ByteArray.empty l0 x9_1).toList == ([46, 46] : List UInt8)) = true := yc.mpr c9
          have c9b1 : ((rdOf ByteArray.empty l0 x9_1).toList != ([46, 46] : List UInt8)) = false := yf.mpr c9
          clear c9
          obtain rfl := yg H
          simp only [zH, zI] at H
          obtain ⟨rfl⟩ := H
          have p108 : 0 ≤ (x9_1 : Int) := zj (by first | (with_reducible assumption) | assumption)
          have q108 : x9_1 < (l0.length : Int) := zj (by first | (with_reducible assumption) | assumption)
          obtain ⟨ad108, e108, hx108_0⟩ := Kd.at_string HR0.out x9_1 p108 q108
          cases e108
          replace p108 := eq_true p108
          replace q108 := eq_true q108
          go_wp2
          go_ret
          exact ⟨by first | rfl | (simp; done) | (simp [*]; done), by repeat (first | exact zN _ | apply zO)⟩
         ·rw [if_neg c9] at H
          have c9b0 : ((rdOf ByteArray.empty l0 x9_1).toList == ([46, 46] : List UInt8)) = false := ye.mpr c9
          have c9b1 : ((rdOf ByteArray.empty l0 x9_1).toList != ([46, 46] : List UInt8)) = true := yd.mpr c9
          have H' := Aq.mk H
          clear H
          have p108 : 0 ≤ (x9_1 : Int) := zj (by first | (with_reducible assumption) | assumption)
          have q108 : x9_1 < (l0.length : Int) := zj (by first | (with_reducible assumption) | assumption)
          obtain ⟨ad108, e108, hx108_0⟩ := Kd.at_string HR0.out x9_1 p108 q108
          cases e108
          replace p108 := eq_true p108
          replace q108 := eq_true q108
          go_wp2
          go_roundg k1
          case measure => have := HK1.out; omega
          case rel => exact ⟨(wrap64 (x9_1 + 1)), (by first | rfl | (simp; done) | (simp [*]; done)), H', ⟨by have := HK1.out; omega⟩, by repeat (first | exact zN _ | apply zO)⟩
       ·replace c7 := Bool.eq_false_iff.mpr c7
        subst c7
        have H1 : (purl_pathFault.l0 k1 l0 false l0 (l0.length : Int) (wrap64 (x9_1 + 1))) = some r := by rw [if_neg (show ¬ (false = true) by decide)] at H; exact H
        clear H
        have H := H1
        clear H1
        have H' := Aq.mk H
        clear H
        have p108 : 0 ≤ (x9_1 : Int) := zj (by first | (with_reducible assumption) | assumption)
        have q108 : x9_1 < (l0.length : Int) := zj (by first | (with_reducible assumption) | assumption)
        obtain ⟨ad108, e108, hx108_0⟩ := Kd.at_string HR0.out x9_1 p108 q108
        cases e108
        replace p108 := eq_true p108
        replace q108 := eq_true q108
        go_wp2
        go_roundg k1
        case measure => have := HK1.out; omega
        case rel => exact ⟨(wrap64 (x9_1 + 1)), (by first | rfl | (simp; done) | (simp [*]; done)), H', ⟨by have := HK1.out; omega⟩, by repeat (first | exact zN _ | apply zO)⟩
     ·rw [if_neg c5] at H
      exact absurd H (by simp)
    ·rw [if_neg c4] at H
     exact absurd H (by simp)
   ·rw [if_neg c3] at H
    have c3b0 : decide (x9_1 < (l0.length : Int)) = false := zl c3
    clear c3
    obtain rfl := yg H
    simp only [zH, zI] at H
    obtain ⟨rfl⟩ := H
    go_wp2
    go_ret
    exact ⟨by first | rfl | (simp; done) | (simp [*]; done), by repeat (first | exact zN _ | apply zO)⟩
def purl_segments.f (a0 : ByteArray) : Option (List ByteArray) := if a0.toList = ([] : List UInt8) then (some ([] : List ByteArray)) else ((lib_Split.f a0 (⟨#[47]⟩ : ByteArray)).bind fun t109 => (some t109))
set_option maxHeartbeats 8000000 in
set_option maxRecDepth 100000 in
theorem purl_segments.calls (a0 : ByteArray) (r : List ByteArray) (w : World) (h : purl_segments.f a0 = some r) :
  Calls Tryd.prog 68 #[.string a0] w fun e w' => ∃ v0_ : Value, e = .returned (v0_) ∧ Kd.R Kd.string 9 w' w.heap.size (fun _ => True) v0_ r ∧ Below w.heap.size w w' := by
 have HB := Aq.mk (Below.refl w.heap.size w)
 have H : (if a0.toList = ([] : List UInt8) then (some ([] : List ByteArray)) else ((lib_Split.f a0 (⟨#[47]⟩ : ByteArray)).bind fun t109 => (some t109))) = some r := h
 clear h
 by_cases c2 : a0.toList = ([] : List UInt8)
 ·rw [if_pos c2] at H
  have c2b0 : (a0.toList == ([] : List UInt8)) = true := yc.mpr c2
  have c2b1 : (a0.toList != ([] : List UInt8)) = false := yf.mpr c2
  clear c2
  obtain rfl := yg H
  simp only [zH, zI] at H
  obtain ⟨rfl⟩ := H
  go_enter Tryd.func68, Tryd.ntmps68
  go_wp2
  go_ret
  exact ⟨_, by first | rfl | (simp [yl, ym] <;> rfl) | (simp [*, yl, ym] <;> rfl), by first | exact Kd.R_nil _ _ _ _ _ | exact Kd.N_nil _ _ _ _ _ | exact Kd.V_nil _ _ _ _ _ | exact Kd.Q_nil _ _ _ _ _ | exact Kd.S_nil _ _ _ _ _, by repeat (first | (with_reducible first | exact HB.out | apply zd | apply zb | apply zc) | exact HB.out)⟩
 ·rw [if_neg c2] at H
  have c2b0 : (a0.toList == ([] : List UInt8)) = false := ye.mpr c2
  have c2b1 : (a0.toList != ([] : List UInt8)) = true := yd.mpr c2
  replace H := zu.mp H
  obtain ⟨t109, A30, H⟩ := H
  replace H : (some t109) = some r := H
  have A3 := Aq.mk A30
  clear A30
  obtain rfl := yg H
  simp only [zH, zI] at H
  obtain ⟨rfl⟩ := H
  go_enter Tryd.func68, Tryd.ntmps68
  go_wp2_with (first | ((with_reducible refine gate_callee (f := 108) rfl ?_); refine goesL_ (some 6) rfl rfl Tryd.func108 (by kernel_rfl) rfl #[.string a0, .string (⟨#[47]⟩ : ByteArray)] rfl (by (try simp only [zP, zQ, zR]); first | done | rfl | (simp only [zS, zT]; rfl)) ?_; (with_reducible refine (lib_Split.calls a0 (⟨#[47]⟩ : ByteArray) t109 _ A3.out).mono ?_); rintro e w4 ⟨v110, rfl, ho0, hb⟩; refine ⟨_, rfl, ?_⟩; have n0_ := Aq.mk (zX ho0 (zz (by repeat (first | (with_reducible first | exact HB.out | apply zd | apply zb | apply zc) | exact HB.out)))); have n1_ := Aq.mk (zv (by repeat (first | (with_reducible first | exact HB.out | apply zd | apply zb | apply zc) | exact HB.out)) hb); clear HB; have HO111 := n0_; have HB := n1_; clear n0_ n1_; (try clear hb); (try clear hb2); (try clear hk); (try clear hi); (try clear ho0)))
  go_ret
  exact ⟨_, by first | rfl | (simp [yl, ym] <;> rfl) | (simp [*, yl, ym] <;> rfl), by (with_reducible repeat (first | apply zC | apply zB | apply zD)); exact HO111.out, by repeat (first | (with_reducible first | exact HB.out | apply zd | apply zb | apply zc) | exact HB.out)⟩
def purl_nameByte.f (a0 : Int) (a1 : Bool) : Option (Bool) := if a0 ≥ 97 then (if a0 ≤ 122 then (some true) else (if a1 = true then (some false) else (if a0 ≥ 48 then (if a0 ≤ 57 then (some true) else (if a0 = 46 then (some true) else (if a0 = 45 then (some true) else (some (a0 == 95))))) else (if a0 = 46 then (some true) else (if a0 = 45 then (some true) else (some (a0 == 95))))))) else (if a1 = true then (some false) else (if a0 ≥ 48 then (if a0 ≤ 57 then (some true) else (if a0 = 46 then (some true) else (if a0 = 45 then (some true) else (some (a0 == 95))))) else (if a0 = 46 then (some true) else (if a0 = 45 then (some true) else (some (a0 == 95))))))
set_option maxHeartbeats 8000000 in
set_option maxRecDepth 100000 in
theorem purl_nameByte.calls (a0 : Int) (a1 : Bool) (r : Bool) (w : World) (h : purl_nameByte.f a0 a1 = some r) :
  Calls Tryd.prog 124 #[.int .u8 a0, .bool a1] w fun e w' => e = .returned (.bool r) ∧ Drawn0 w w' := by
 have H : (if a0 ≥ 97 then (if a0 ≤ 122 then (some true) else (if a1 = true then (some false) else (if a0 ≥ 48 then (if a0 ≤ 57 then (some true) else (if a0 = 46 then (some true) else (if a0 = 45 then (some true) else (some (a0 == 95))))) else (if a0 = 46 then (some true) else (if a0 = 45 then (some true) else (some (a0 == 95))))))) else (if a1 = true then (some false) else (if a0 ≥ 48 then (if a0 ≤ 57 then (some true) else (if a0 = 46 then (some true) else (if a0 = 45 then (some true) else (some (a0 == 95))))) else (if a0 = 46 then (some true) else (if a0 = 45 then (some true) else (some (a0 == 95))))))) = some r := h
 clear h
 by_cases c3 : a0 ≥ 97
 ·rw [if_pos c3] at H
  have c3b0 : decide (97 ≤ a0) = true := zk c3
  clear c3
  by_cases c4 : a0 ≤ 122
  ·rw [if_pos c4] at H
   have c4b0 : decide (a0 ≤ 122) = true := zk c4
   clear c4
   obtain rfl := yg H
   simp only [zH, zI] at H
   obtain ⟨rfl⟩ := H
   go_enter Tryd.func124, Tryd.ntmps124
   go_wp2
   go_ret
   exact ⟨by first | rfl | (simp; done) | (simp [*]; done), by repeat (first | exact zN _ | apply zO)⟩
  ·rw [if_neg c4] at H
   have c4b0 : decide (a0 ≤ 122) = false := zl c4
   clear c4
   by_cases c5 : a1 = true
   ·subst c5
    have H1 : (some false) = some r := by rw [if_pos rfl] at H; exact H
    clear H
    have H := H1
    clear H1
    obtain rfl := yg H
    simp only [zH, zI] at H
    obtain ⟨rfl⟩ := H
    go_enter Tryd.func124, Tryd.ntmps124
    go_wp2
    go_ret
    exact ⟨by first | rfl | (simp; done) | (simp [*]; done), by repeat (first | exact zN _ | apply zO)⟩
   ·replace c5 := Bool.eq_false_iff.mpr c5
    subst c5
    have H1 : (if a0 ≥ 48 then (if a0 ≤ 57 then (some true) else (if a0 = 46 then (some true) else (if a0 = 45 then (some true) else (some (a0 == 95))))) else (if a0 = 46 then (some true) else (if a0 = 45 then (some true) else (some (a0 == 95))))) = some r := by rw [if_neg (show ¬ (false = true) by decide)] at H; exact H
    clear H
    have H := H1
    clear H1
    by_cases c6 : a0 ≥ 48
    ·rw [if_pos c6] at H
     have c6b0 : decide (48 ≤ a0) = true := zk c6
     clear c6
     by_cases c7 : a0 ≤ 57
     ·rw [if_pos c7] at H
      have c7b0 : decide (a0 ≤ 57) = true := zk c7
      clear c7
      obtain rfl := yg H
      simp only [zH, zI] at H
      obtain ⟨rfl⟩ := H
      go_enter Tryd.func124, Tryd.ntmps124
      go_wp2
      go_ret
      exact ⟨by first | rfl | (simp; done) | (simp [*]; done), by repeat (first | exact zN _ | apply zO)⟩
     ·rw [if_neg c7] at H
      have c7b0 : decide (a0 ≤ 57) = false := zl c7
      clear c7
      by_cases c8 : a0 = 46
      ·rw [if_pos c8] at H
       have c8b0 : (a0 == 46) = true := yc.mpr c8
       have c8b1 : (a0 != 46) = false := yf.mpr c8
       clear c8
       obtain rfl := yg H
       simp only [zH, zI] at H
       obtain ⟨rfl⟩ := H
       go_enter Tryd.func124, Tryd.ntmps124
       go_wp2
       go_ret
       exact ⟨by first | rfl | (simp; done) | (simp [*]; done), by repeat (first | exact zN _ | apply zO)⟩
      ·rw [if_neg c8] at H
       have c8b0 : (a0 == 46) = false := ye.mpr c8
       have c8b1 : (a0 != 46) = true := yd.mpr c8
       by_cases c9 : a0 = 45
       ·rw [if_pos c9] at H
        have c9b0 : (a0 == 45) = true := yc.mpr c9
        have c9b1 : (a0 != 45) = false := yf.mpr c9
        clear c9
        obtain rfl := yg H
        simp only [zH, zI] at H
        obtain ⟨rfl⟩ := H
        go_enter Tryd.func124, Tryd.ntmps124
        go_wp2
        go_ret
        exact ⟨by first | rfl | (simp; done) | (simp [*]; done), by repeat (first | exact zN _ | apply zO)⟩
       ·rw [if_neg c9] at H
        have c9b0 : (a0 == 45) = false := ye.mpr c9
        have c9b1 : (a0 != 45) = true := yd.mpr c9
        obtain rfl := yg H
        simp only [zH, zI] at H
        obtain ⟨rfl⟩ := H
        go_enter Tryd.func124, Tryd.ntmps124
        go_wp2
        go_ret
        exact ⟨by first | rfl | (simp; done) | (simp [*]; done), by repeat (first | exact zN _ | apply zO)⟩
    ·rw [if_neg c6] at H
     have c6b0 : decide (48 ≤ a0) = false := zl c6
     clear c6
     by_cases c10 : a0 = 46
     ·rw [if_pos c10] at H
      have c10b0 : (a0 == 46) = true := yc.mpr c10
      have c10b1 : (a0 != 46) = false := yf.mpr c10
      clear c10
      obtain rfl := yg H
      simp only [zH, zI] at H
      obtain ⟨rfl⟩ := H
      go_enter Tryd.func124, Tryd.ntmps124
      go_wp2
      go_ret
      exact ⟨by first | rfl | (simp; done) | (simp [*]; done), by repeat (first | exact zN _ | apply zO)⟩
     ·rw [if_neg c10] at H
      have c10b0 : (a0 == 46) = false := ye.mpr c10
      have c10b1 : (a0 != 46) = true := yd.mpr c10
      by_cases c11 : a0 = 45
      ·rw [if_pos c11] at H
       have c11b0 : (a0 == 45) = true := yc.mpr c11
       have c11b1 : (a0 != 45) = false := yf.mpr c11
       clear c11
       obtain rfl := yg H
       simp only [zH, zI] at H
       obtain ⟨rfl⟩ := H
       go_enter Tryd.func124, Tryd.ntmps124
       go_wp2
       go_ret
       exact ⟨by first | rfl | (simp; done) | (simp [*]; done), by repeat (first | exact zN _ | apply zO)⟩
      ·rw [if_neg c11] at H
       have c11b0 : (a0 == 45) = false := ye.mpr c11
       have c11b1 : (a0 != 45) = true := yd.mpr c11
       obtain rfl := yg H
       simp only [zH, zI] at H
       obtain ⟨rfl⟩ := H
       go_enter Tryd.func124, Tryd.ntmps124
       go_wp2
       go_ret
       exact ⟨by first | rfl | (simp; done) | (simp [*]; done), by repeat (first | exact zN _ | apply zO)⟩
 ·rw [if_neg c3] at H
  have c3b0 : decide (97 ≤ a0) = false := zl c3
  clear c3
  by_cases c12 : a1 = true
  ·subst c12
   have H1 : (some false) = some r := by rw [if_pos rfl] at H; exact H
   clear H
   have H := H1
   clear H1
   obtain rfl := yg H
   simp only [zH, zI] at H
   obtain ⟨rfl⟩ := H
   go_enter Tryd.func124, Tryd.ntmps124
   go_wp2
   go_ret
   exact ⟨by first | rfl | (simp; done) | (simp [*]; done), by repeat (first | exact zN _ | apply zO)⟩
  ·replace c12 := Bool.eq_false_iff.mpr c12
   subst c12
   have H1 : (if a0 ≥ 48 then (if a0 ≤ 57 then (some true) else (if a0 = 46 then (some true) else (if a0 = 45 then (some true) else (some (a0 == 95))))) else (if a0 = 46 then (some true) else (if a0 = 45 then (some true) else (some (a0 == 95))))) = some r := by rw [if_neg (show ¬ (false = true) by decide)] at H; exact H
   clear H
   have H := H1
   clear H1
   by_cases c13 : a0 ≥ 48
   ·rw [if_pos c13] at H
    have c13b0 : decide (48 ≤ a0) = true := zk c13
    clear c13
    by_cases c14 : a0 ≤ 57
    ·rw [if_pos c14] at H
     have c14b0 : decide (a0 ≤ 57) = true := zk c14
     clear c14
     obtain rfl := yg H
     simp only [zH, zI] at H
     obtain ⟨rfl⟩ := H
     go_enter Tryd.func124, Tryd.ntmps124
     go_wp2
     go_ret
     exact ⟨by first | rfl | (simp; done) | (simp [*]; done), by repeat (first | exact zN _ | apply zO)⟩
    ·rw [if_neg c14] at H
     have c14b0 : decide (a0 ≤ 57) = false := zl c14
     clear c14
     by_cases c15 : a0 = 46
     ·rw [if_pos c15] at H
      have c15b0 : (a0 == 46) = true := yc.mpr c15
      have c15b1 : (a0 != 46) = false := yf.mpr c15
      clear c15
      obtain rfl := yg H
      simp only [zH, zI] at H
      obtain ⟨rfl⟩ := H
      go_enter Tryd.func124, Tryd.ntmps124
      go_wp2
      go_ret
      exact ⟨by first | rfl | (simp; done) | (simp [*]; done), by repeat (first | exact zN _ | apply zO)⟩
     ·rw [if_neg c15] at H
      have c15b0 : (a0 == 46) = false := ye.mpr c15
      have c15b1 : (a0 != 46) = true := yd.mpr c15
      by_cases c16 : a0 = 45
      ·rw [if_pos c16] at H
       have c16b0 : (a0 == 45) = true := yc.mpr c16
       have c16b1 : (a0 != 45) = false := yf.mpr c16
       clear c16
       obtain rfl := yg H
       simp only [zH, zI] at H
       obtain ⟨rfl⟩ := H
       go_enter Tryd.func124, Tryd.ntmps124
       go_wp2
       go_ret
       exact ⟨by first | rfl | (simp; done) | (simp [*]; done), by repeat (first | exact zN _ | apply zO)⟩
      ·rw [if_neg c16] at H
       have c16b0 : (a0 == 45) = false := ye.mpr c16
       have c16b1 : (a0 != 45) = true := yd.mpr c16
       obtain rfl := yg H
       simp only [zH, zI] at H
       obtain ⟨rfl⟩ := H
       go_enter Tryd.func124, Tryd.ntmps124
       go_wp2
       go_ret
       exact ⟨by first | rfl | (simp; done) | (simp [*]; done), by repeat (first | exact zN _ | apply zO)⟩
   ·rw [if_neg c13] at H
    have c13b0 : decide (48 ≤ a0) = false := zl c13
    clear c13
    by_cases c17 : a0 = 46
    ·rw [if_pos c17] at H
     have c17b0 : (a0 == 46) = true := yc.mpr c17
     have c17b1 : (a0 != 46) = false := yf.mpr c17
     clear c17
     obtain rfl := yg H
     simp only [zH, zI] at H
     obtain ⟨rfl⟩ := H
     go_enter Tryd.func124, Tryd.ntmps124
     go_wp2
     go_ret
     exact ⟨by first | rfl | (simp; done) | (simp [*]; done), by repeat (first | exact zN _ | apply zO)⟩
    ·rw [if_neg c17] at H
     have c17b0 : (a0 == 46) = false := ye.mpr c17
     have c17b1 : (a0 != 46) = true := yd.mpr c17
     by_cases c18 : a0 = 45
     ·rw [if_pos c18] at H
      have c18b0 : (a0 == 45) = true := yc.mpr c18
      have c18b1 : (a0 != 45) = false := yf.mpr c18
      clear c18
      obtain rfl := yg H
      simp only [zH, zI] at H
      obtain ⟨rfl⟩ := H
      go_enter Tryd.func124, Tryd.ntmps124
      go_wp2
      go_ret
      exact ⟨by first | rfl | (simp; done) | (simp [*]; done), by repeat (first | exact zN _ | apply zO)⟩
     ·rw [if_neg c18] at H
      have c18b0 : (a0 == 45) = false := ye.mpr c18
      have c18b1 : (a0 != 45) = true := yd.mpr c18
      obtain rfl := yg H
      simp only [zH, zI] at H
      obtain ⟨rfl⟩ := H
      go_enter Tryd.func124, Tryd.ntmps124
      go_wp2
      go_ret
      exact ⟨by first | rfl | (simp; done) | (simp [*]; done), by repeat (first | exact zN _ | apply zO)⟩
end Go.Proofs.YtmnfjbmhlabdaaaDoor.Pr
