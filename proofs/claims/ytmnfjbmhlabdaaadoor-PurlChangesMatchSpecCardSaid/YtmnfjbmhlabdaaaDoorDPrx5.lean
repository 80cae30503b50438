-- Written by a program of the session (wip/pr.py) out of the translation; Lean checks it.
import Derived.Test.YtmnfjbmhlabdaaaDoorDXa
import Derived.Test.YtmnfjbmhlabdaaaDoorDXb
import Derived.Test.YtmnfjbmhlabdaaaDoorDPrx0
import Derived.Test.YtmnfjbmhlabdaaaDoorDPrx4
import Derived.Test.YtmnfjbmhlabdaaaDoorDEb
import Derived.Test.YtmnfjbmhlabdaaaDoorDEi
namespace Go.Proofs.YtmnfjbmhlabdaaaDoor.Pr
open Go.RowKit Go.Proofs.YtmnfjbmhlabdaaaDoorW.PrintWords Go.Proofs.YtmnfjbmhlabdaaaDoorW.PrintLast Go.Proofs.YtmnfjbmhlabdaaaDoorW.PrintMore
attribute [local go_sem] max2_int min2_int max_two min_two max_three min_three max_four min_four
set_option linter.unusedVariables false
set_option linter.unusedSimpArgs false
mutual
def pr_head.l0 : Nat → Bool → Int → ByteArray → Int → Int → Option (ByteArray × ByteArray × Int × Int)
 | 0, _, _, _, _, _ => none
 | k + 1, x1, x7, x1000, x1001, x1002 => if x7 < 4 then (if x7 ≥ (x1000.size : Int) then (none) else (if 0 ≤ x7 then (if x7 ≤ (wrap64 (x7 + 1)) then (if (wrap64 (x7 + 1)) ≤ (x1000.size : Int) then ((purl_small.f (x1000.extract (x7 : Int).toNat ((wrap64 (x7 + 1)) : Int).toNat)).bind fun t147 => (if (wrap64 (x7 + 1)) ≤ 4 then (if t147.toList = ((⟨#[112, 107, 103, 58]⟩ : ByteArray).extract (x7 : Int).toNat ((wrap64 (x7 + 1)) : Int).toNat).toList then (pr_head.l0 k x1 (wrap64 (x7 + 1)) x1000 x1001 x1002) else (none)) else (none))) else (none)) else (none)) else (none))) else (if x1 = true then (none) else (pr_head.j1 k false x1000 4 x1002))
def pr_head.j1 : Nat → Bool → ByteArray → Int → Int → Option (ByteArray × ByteArray × Int × Int)
 | 0, _, _, _, _ => none
 | k + 1, x45, x1000, x1001, x1002 => if x45 = true then (none) else (pr_head.l1 k x1000 x1001 x1002)
def pr_head.j3 : Nat → ByteArray → Int → Int → Option (ByteArray × ByteArray × Int × Int)
 | 0, _, _, _ => none
 | k + 1, x1000, x1001, x1002 => if 4 ≤ x1001 then (if x1001 ≤ (x1000.size : Int) then (if (x1000.extract 4 (x1001 : Int).toNat).toList = ([] : List UInt8) then (none) else ((pr_peek.f x1000 x1001 x1002).bind fun bt156 => (pr_head.j4 k (x1000.extract 4 (x1001 : Int).toNat) (bt156.1 != 47) bt156.2.1 bt156.2.2.1 bt156.2.2.2))) else (none)) else (none)
def pr_head.j4 : Nat → ByteArray → Bool → ByteArray → Int → Int → Option (ByteArray × ByteArray × Int × Int)
 | 0, _, _, _, _, _ => none
 | k + 1, x6, x97, x1000, x1001, x1002 => if x97 = true then (none) else ((purl_small.f x6).bind fun t163 => (some (t163, x1000, wrap64 (x1001 + 1), x1002)))
def pr_head.l1 : Nat → ByteArray → Int → Int → Option (ByteArray × ByteArray × Int × Int)
 | 0, _, _, _ => none
 | k + 1, x1000, x1001, x1002 => if x1001 < (x1000.size : Int) then (if 0 ≤ x1001 then ((purl_isLetter.f (bt x1000 x1001)).bind fun t155 => (if t155 = true then (pr_head.l1 k x1000 (wrap64 (x1001 + 1)) x1002) else (pr_head.j3 k x1000 x1001 x1002))) else (none)) else (none)
end
def pr_head.f (k : Nat) (s0_0 : ByteArray) (s0_1 : Int) (s0_2 : Int) (a1 : Bool) : Option (ByteArray × ByteArray × Int × Int) := pr_head.l0 k a1 0 s0_0 s0_1 s0_2
theorem pr_head.mono_l : ∀ k, (∀ y0 y1 y2 y3 y4, LeO (pr_head.l0 k y0 y1 y2 y3 y4) (pr_head.l0 (k + 1) y0 y1 y2 y3 y4)) ∧ (∀ y0 y1 y2 y3, LeO (pr_head.j1 k y0 y1 y2 y3) (pr_head.j1 (k + 1) y0 y1 y2 y3)) ∧ (∀ y0 y1 y2, LeO (pr_head.j3 k y0 y1 y2) (pr_head.j3 (k + 1) y0 y1 y2)) ∧ (∀ y0 y1 y2 y3 y4, LeO (pr_head.j4 k y0 y1 y2 y3 y4) (pr_head.j4 (k + 1) y0 y1 y2 y3 y4)) ∧ (∀ y0 y1 y2, LeO (pr_head.l1 k y0 y1 y2) (pr_head.l1 (k + 1) y0 y1 y2))
 | 0 => ⟨fun _ _ _ _ _ r h => by simp [pr_head.l0] at h, fun _ _ _ _ r h => by simp [pr_head.j1] at h, fun _ _ _ r h => by simp [pr_head.j3] at h, fun _ _ _ _ _ r h => by simp [pr_head.j4] at h, fun _ _ _ r h => by simp [pr_head.l1] at h⟩
 | k + 1 => by
  obtain ⟨ih0, ih1, ih2, ih3, ih4⟩ := pr_head.mono_l k
  refine ⟨?_, ?_, ?_, ?_, ?_⟩
  ·intro y0 y1 y2 y3 y4
   unfold pr_head.l0
   repeat' first
   | (with_reducible exact ya _)
   | (with_reducible exact yb _)
   | (with_reducible refine zZ ?_ ?_)
   | (with_reducible refine zY ?_ (fun _ => ?_))
   | exact ih0 _ _ _ _ _
   | exact ih1 _ _ _ _
   | exact ih2 _ _ _
   | exact ih3 _ _ _ _ _
   | exact ih4 _ _ _
   | exact yb _
   | refine zZ ?_ ?_
   | refine zY ?_ (fun _ => ?_)
  ·intro y0 y1 y2 y3
   unfold pr_head.j1
   repeat' first
   | (with_reducible exact ya _)
   | (with_reducible exact yb _)
   | (with_reducible refine zZ ?_ ?_)
   | (with_reducible refine zY ?_ (fun _ => ?_))
   | exact ih0 _ _ _ _ _
   | exact ih1 _ _ _ _
   | exact ih2 _ _ _
   | exact ih3 _ _ _ _ _
   | exact ih4 _ _ _
   | exact yb _
   | refine zZ ?_ ?_
   | refine zY ?_ (fun _ => ?_)
  ·intro y0 y1 y2
   unfold pr_head.j3
   repeat' first
   | (with_reducible exact ya _)
   | (with_reducible exact yb _)
   | (with_reducible refine zZ ?_ ?_)
   | (with_reducible refine zY ?_ (fun _ => ?_))
   | exact ih0 _ _ _ _ _
   | exact ih1 _ _ _ _
   | exact ih2 _ _ _
   | exact ih3 _ _ _ _ _
   | exact ih4 _ _ _
   | exact yb _
   | refine zZ ?_ ?_
   | refine zY ?_ (fun _ => ?_)
  ·intro y0 y1 y2 y3 y4
   unfold pr_head.j4
   repeat' first
   | (with_reducible exact ya _)
   | (with_reducible exact yb _)
   | (with_reducible refine zZ ?_ ?_)
   | (with_reducible refine zY ?_ (fun _ => ?_))
   | exact ih0 _ _ _ _ _
   | exact ih1 _ _ _ _
   | exact ih2 _ _ _
   | exact ih3 _ _ _ _ _
   | exact ih4 _ _ _
   | exact yb _
   | refine zZ ?_ ?_
   | refine zY ?_ (fun _ => ?_)
  ·intro y0 y1 y2
   unfold pr_head.l1
   repeat' first
   | (with_reducible exact ya _)
   | (with_reducible exact yb _)
   | (with_reducible refine zZ ?_ ?_)
   | (with_reducible refine zY ?_ (fun _ => ?_))
   | exact ih0 _ _ _ _ _
   | exact ih1 _ _ _ _
   | exact ih2 _ _ _
   | exact ih3 _ _ _ _ _
   | exact ih4 _ _ _
   | exact yb _
   | refine zZ ?_ ?_
   | refine zY ?_ (fun _ => ?_)
theorem pr_head.mono : ∀ a0 a1 a2 a3 k, LeO (pr_head.f k a0 a1 a2 a3) (pr_head.f (k + 1) a0 a1 a2 a3) := by
 intro a0 a1 a2 a3 k
 obtain ⟨ih0, ih1, ih2, ih3, ih4⟩ := pr_head.mono_l k
 unfold pr_head.f
 repeat' first
   | (with_reducible exact ya _)
   | (with_reducible exact yb _)
   | (with_reducible refine zZ ?_ ?_)
   | (with_reducible refine zY ?_ (fun _ => ?_))
   | exact ih0 _ _ _ _ _
   | exact ih1 _ _ _ _
   | exact ih2 _ _ _
   | exact ih3 _ _ _ _ _
   | exact ih4 _ _ _
   | exact yb _
   | refine zZ ?_ ?_
   | refine zY ?_ (fun _ => ?_)
set_option maxHeartbeats 2000000 in
set_option maxRecDepth 100000 in
theorem pr_head.calls (k : Nat) (g : Nat) (s0_0 : ByteArray) (s0_1 : Int) (s0_2 : Int) (a1 : Bool) (r1 : ByteArray) (r2 : ByteArray) (r3 : Int) (r4 : Int) (w0 w : World) (hI : IsS69 w0 w g s0_0 s0_1 s0_2) (hB : Below w0.heap.size w0 w) (h : pr_head.f k s0_0 s0_1 s0_2 a1 = some (r1, r2, r3, r4)) :
  Calls Tryd.prog 92 #[.pointer (some ⟨g, 0, none⟩), .bool a1] w fun e w' => e = .returned (.string r1) ∧ IsS69 w0 w' g r2 r3 r4 ∧ Below w0.heap.size w0 w' ∧ KeepBut w w' g none := by
 have HI0 := Aq.mk hI
 have HK := Aq.mk (KeepBut.refl w g none)
 have HL := Aq.mk hB.size
 clear hI
 have HW0 := Aq.mk hB.size
 have HB := Aq.mk hB
 clear hB
 have H : (pr_head.l0 k a1 0 s0_0 s0_1 s0_2) = some (r1, r2, r3, r4) := h
 clear h
 have H' := Aq.mk H
 clear H
 go_enter Tryd.func92, Tryd.ntmps92
 go_wp2
 go_loopg [7] k (fun kq v7 w' => ∃ (x7_1 : Int) (x1000_1 : ByteArray) (x1001_1 : Int) (x1002_1 : Int), v7 = .int .i64 x7_1 ∧ Aq (pr_head.l0 kq a1 x7_1 x1000_1 x1001_1 x1002_1 = some (r1, r2, r3, r4)) ∧ Aq (kq ≤ k) ∧ Aq (IsS69 w0 w' g x1000_1 x1001_1 x1002_1) ∧ Aq (KeepBut w w' g none) ∧ Aq (Below w0.heap.size w0 w'))
 case atStart => exact ⟨(0), (s0_0), (s0_1), (s0_2), (by first | rfl | (simp; done) | (simp [*]; done)), H', ⟨Nat.le_refl _⟩, ⟨by repeat (with_reducible first | exact HI0.out | apply zn | apply zo | apply zp | apply zq | apply zr | apply zt)⟩, ⟨by repeat (with_reducible first | exact HK.out | apply zm | apply zU | apply zV | apply zW)⟩, ⟨by repeat (with_reducible first | exact HB.out | apply zd | apply zb | apply zc | refine zf ?_ (IsS69.ge HI0.out))⟩⟩
 case round =>
  clear H'
  try clear p2
  obtain ⟨x7_1, x1000_1, x1001_1, x1002_1, rfl, HA, HK1, HI0, HK, HB⟩ := hrel
  cases gk with
  | zero => exact absurd HA.out (by simp [pr_head.l0])
  | succ k1 =>
   have H := HA.out
   clear HA
   simp only [pr_head.l0] at H
   by_cases c3 : x7_1 < 4
   ·rw [if_pos c3] at H
    have c3b0 : decide (x7_1 < 4) = true := zk c3
    clear c3
    by_cases c4 : x7_1 ≥ (x1000_1.size : Int)
    ·rw [if_pos c4] at H
     exact absurd H (by simp)
    ·rw [if_neg c4] at H
     have c4b0 : decide ((x1000_1.size : Int) ≤ x7_1) = false := zl c4
     clear c4
     by_cases c8 : 0 ≤ x7_1
     ·rw [if_pos c8] at H
      have c8b0 := eq_true c8
      have c8b1 : decide (0 ≤ x7_1) = true := zk c8
      clear c8
      by_cases c9 : x7_1 ≤ (wrap64 (x7_1 + 1))
      ·rw [if_pos c9] at H
       have c9b0 := eq_true c9
       have c9b1 : decide (x7_1 ≤ (wrap64 (x7_1 + 1))) = true := zk c9
       by_cases c10 : (wrap64 (x7_1 + 1)) ≤ (x1000_1.size : Int)
       ·rw [if_pos c10] at H
        have c10b0 := eq_true c10
        have c10b1 : decide ((wrap64 (x7_1 + 1)) ≤ (x1000_1.size : Int)) = true := zk c10
        replace H := zu.mp H
        obtain ⟨t147, A110, H⟩ := H
        replace H : (if (wrap64 (x7_1 + 1)) ≤ 4 then (if t147.toList = ((⟨#[112, 107, 103, 58]⟩ : ByteArray).extract (x7_1 : Int).toNat ((wrap64 (x7_1 + 1)) : Int).toNat).toList then (pr_head.l0 k1 a1 (wrap64 (x7_1 + 1)) x1000_1 x1001_1 x1002_1) else (none)) else (none)) = some (r1, r2, r3, r4) := H
        have A11 := Aq.mk A110
        clear A110
        have c12b0 := eq_true (zj (by assumption) : 0 ≤ x7_1)
        have c13b0 := eq_true (zj (by assumption) : x7_1 ≤ (wrap64 (x7_1 + 1)))
        by_cases c14 : (wrap64 (x7_1 + 1)) ≤ 4
        ·rw [if_pos c14] at H
         have c14b0 := eq_true c14
         have c14b1 : decide ((wrap64 (x7_1 + 1)) ≤ 4) = true := zk c14
         by_cases c15 : t147.toList = ((⟨#[112, 107, 103, 58]⟩ : ByteArray).extract (x7_1 : Int).toNat ((wrap64 (x7_1 + 1)) : Int).toNat).toList
         ·rw [if_pos c15] at H
          have c15b0 : (t147.toList == ((⟨#[112, 107, 103, 58]⟩ : ByteArray).extract (x7_1 : Int).toNat ((wrap64 (x7_1 + 1)) : Int).toNat).toList) = true := yc.mpr c15
          have c15b1 : (t147.toList != ((⟨#[112, 107, 103, 58]⟩ : ByteArray).extract (x7_1 : Int).toNat ((wrap64 (x7_1 + 1)) : Int).toNat).toList) = false := yf.mpr c15
          clear c15
          have H' := Aq.mk H
          clear H
          obtain ⟨HGz16, hgz16⟩ := HI0.out
          have hcz16_0 := cellS69_0 HGz16
          have hcz16_1 := cellS69_1 HGz16
          have hcz16_2 := cellS69_2 HGz16
          have hfz16_0 := za HGz16 0
          have hfz16_1 := za HGz16 1
          have hfz16_2 := za HGz16 2
          clear HGz16 hgz16
          have sl1 : ∀ w_ : World, Sem.run Tryd.prog (Instr.slice 9 (.string x1000_1) (some (.int .i64 x7_1)) (some (.int .i64 (IntKind.i64.wrap (x7_1 + 1)))) none) w_ = .ok (.string (x1000_1.extract (x7_1 : Int).toNat ((wrap64 (x7_1 + 1)) : Int).toNat)) w_ := fun w_ => by rw [i64_w]; exact slStr _ _ _ (of_eq_true c8b0) (of_eq_true c9b0) (of_eq_true c10b0) w_
          have sl2 : ∀ w_ : World, Sem.run Tryd.prog (Instr.slice 9 (.string (⟨#[112, 107, 103, 58]⟩ : ByteArray)) (some (.int .i64 x7_1)) (some (.int .i64 (IntKind.i64.wrap (x7_1 + 1)))) none) w_ = .ok (.string ((⟨#[112, 107, 103, 58]⟩ : ByteArray).extract (x7_1 : Int).toNat ((wrap64 (x7_1 + 1)) : Int).toNat)) w_ := fun w_ => by rw [i64_w]; exact slStr ⟨#[112, 107, 103, 58]⟩ _ _ (of_eq_true c8b0) (of_eq_true c9b0) (show _ ≤ (4 : Int) from of_eq_true c14b0) w_
          go_upto_region 4 with (fail)
          go_region_held3 (fun w' => w'.cell? ⟨g, 0, none⟩ = some (.string x1000_1) ∧ w'.cell? ⟨g, 1, none⟩ = some (.int .i64 x1001_1) ∧ w'.cell? ⟨g, 2, none⟩ = some (.int .i64 x1002_1) ∧ Kp69 w0 w g x1000_1 x1001_1 x1002_1 w') (first | exact St69.drew HI0.out HK.out HB.out | exact St69.below (by assumption) (by assumption)) (first | (go_at_call 100; (with_reducible refine (purl_small.calls (x1000_1.extract (x7_1 : Int).toNat ((wrap64 (x7_1 + 1)) : Int).toNat) t147 _ A11.out).mono ?_); rintro e w17 ⟨rfl, hb⟩))
          rename_i hS_
          obtain ⟨_, _, _, hS9⟩ := hS_
          clear sl1 sl2 HI0 HK HB
          have HI0 := Aq.mk hS9.i
          have HK := Aq.mk hS9.k
          have HB := Aq.mk hS9.b
          have hczQ_0 := cellS69_0 hS9.i.1
          have hczQ_1 := cellS69_1 hS9.i.1
          have hczQ_2 := cellS69_2 hS9.i.1
          have hfzQ_0 := za hS9.i.1 0
          have hfzQ_1 := za hS9.i.1 1
          have hfzQ_2 := za hS9.i.1 2
          clear hS9
          try go_wp2_with (first | (go_at_call 100; (with_reducible refine (purl_small.calls (x1000_1.extract (x7_1 : Int).toNat ((wrap64 (x7_1 + 1)) : Int).toNat) t147 _ A11.out).mono ?_); rintro e w17 ⟨rfl, hb⟩; have n0_ := Aq.mk (IsS69.below (by repeat (with_reducible first | exact HI0.out | apply zn | apply zo | apply zp | apply zq | apply zr | apply zt)) hb); have n1_ := Aq.mk (KeepBut.trans (by repeat (with_reducible first | exact HK.out | apply zm | apply zU | apply zV | apply zW)) (KeepBut.of_below hb g none) (.inl rfl)); have n2_ := Aq.mk (zv (by repeat (with_reducible first | exact HB.out | apply zd | apply zb | apply zc | refine zf ?_ (IsS69.ge HI0.out))) hb); clear HI0; clear HK; clear HB; have HI0 := n0_; have HK := n1_; have HB := n2_; clear n0_ n1_ n2_; (try clear hb); (try clear hb2); (try clear hk); (try clear hi)))
          go_roundg k1
          case measure => have := HK1.out; omega
          case rel => exact ⟨(wrap64 (x7_1 + 1)), (x1000_1), (x1001_1), (x1002_1), (by first | rfl | (simp; done) | (simp [*]; done)), H', ⟨by have := HK1.out; omega⟩, ⟨by repeat (with_reducible first | exact HI0.out | apply zn | apply zo | apply zp | apply zq | apply zr | apply zt)⟩, ⟨by repeat (with_reducible first | exact HK.out | apply zm | apply zU | apply zV | apply zW)⟩, ⟨by repeat (with_reducible first | exact HB.out | apply zd | apply zb | apply zc | refine zf ?_ (IsS69.ge HI0.out))⟩⟩
         ·rw [if_neg c15] at H
          exact absurd H (by simp)
        ·rw [if_neg c14] at H
         exact absurd H (by simp)
       ·rw [if_neg c10] at H
        exact absurd H (by simp)
      ·rw [if_neg c9] at H
       exact absurd H (by simp)
     ·rw [if_neg c8] at H
      exact absurd H (by simp)
   ·rw [if_neg c3] at H
    have c3b0 : decide (x7_1 < 4) = false := zl c3
    clear c3
    have HC22 := Aq.mk H
    clear H
    obtain ⟨HGz23, hgz23⟩ := HI0.out
    have hcz23_0 := cellS69_0 HGz23
    have hcz23_1 := cellS69_1 HGz23
    have hcz23_2 := cellS69_2 HGz23
    have hfz23_0 := za HGz23 0
    have hfz23_1 := za HGz23 1
    have hfz23_2 := za HGz23 2
    clear HGz23 hgz23
    go_upto_region 9 with (fail)
    repeat (go_quiet (fail); go_upto_region 9 with (fail))
    go_cut [45] (fun v45 wc => ∃ (kq : Nat) (x45_21 : Bool) (x1000_21 : ByteArray) (x1001_21 : Int) (x1002_21 : Int), v45 = .bool x45_21 ∧ Aq (pr_head.j1 kq x45_21 x1000_21 x1001_21 x1002_21 = some (r1, r2, r3, r4)) ∧ Aq (kq ≤ k1) ∧ Aq (IsS69 w0 wc g x1000_21 x1001_21 x1002_21) ∧ Aq (KeepBut w wc g none) ∧ Aq (Below w0.heap.size w0 wc))
    case first =>
     have H := HC22.out
     clear HC22
     by_cases c24 : a1 = true
     ·rw [if_pos c24] at H
      exact absurd H (by simp)
     ·replace c24 := Bool.eq_false_iff.mpr c24
      subst c24
      have H1 : (pr_head.j1 k1 false x1000_1 4 x1002_1) = some (r1, r2, r3, r4) := by rw [if_neg (show ¬ (false = true) by decide)] at H; exact H
      clear H
      have H := H1
      clear H1
      have H' := Aq.mk H
      clear H
      go_wp2
      repeat (go_quiet (fail); try go_wp2)
      go_meet
      case rel => exact ⟨_, (false), (x1000_1), (4), (x1002_1), (by first | rfl | (simp; done) | (simp [*]; done)), H', ⟨by have := HK1.out; first | omega | exact Nat.le_refl _⟩, ⟨by repeat (with_reducible first | exact HI0.out | apply zn | apply zo | apply zp | apply zq | apply zr | apply zt)⟩, ⟨by repeat (with_reducible first | exact HK.out | apply zm | apply zU | apply zV | apply zW)⟩, ⟨by repeat (with_reducible first | exact HB.out | apply zd | apply zb | apply zc | refine zf ?_ (IsS69.ge HI0.out))⟩⟩
    case rest =>
     clear HC22
     try clear c1
     try clear c2
     try clear p2
     try clear c3
     try clear c3b0
     try clear c4
     try clear c4b0
     try clear p6
     try clear c8
     try clear c8b0
     try clear c8b1
     try clear c9
     try clear c9b0
     try clear c9b1
     try clear c10
     try clear c10b0
     try clear c10b1
     try clear c12
     try clear c12b0
     try clear c13
     try clear c13b0
     try clear c14
     try clear c14b0
     try clear c14b1
     try clear c15
     try clear c15b0
     try clear c15b1
     try clear c24
     try clear hcz16_0
     try clear hcz16_1
     try clear hcz16_2
     try clear hcz19_0
     try clear hcz19_1
     try clear hcz19_2
     try clear hcz23_0
     try clear hcz23_1
     try clear hcz23_2
     try clear hcz6_0
     try clear hcz6_1
     try clear hcz6_2
     try clear hfz16_0
     try clear hfz16_1
     try clear hfz16_2
     try clear hfz19_0
     try clear hfz19_1
     try clear hfz19_2
     try clear hfz23_0
     try clear hfz23_1
     try clear hfz23_2
     try clear hfz6_0
     try clear hfz6_1
     try clear hfz6_2
     try clear p2
     obtain ⟨kq, x45_21, x1000_21, x1001_21, x1002_21, rfl, HA, HJ21, HI0, HK, HB⟩ := hcut
     cases kq with
     | zero => exact absurd HA.out (by simp [pr_head.j1])
     | succ kj21 =>
      have H := HA.out
      clear HA
      simp only [pr_head.j1] at H
      have HC27 := Aq.mk H
      clear H
      go_upto_if 45 with (fail)
      go_cut [] (fun wc => ∃ (kq : Nat) (x1001_26 : Int), Aq (pr_head.j3 kq x1000_21 x1001_26 x1002_21 = some (r1, r2, r3, r4)) ∧ Aq (kq ≤ kj21) ∧ Aq (IsS69 w0 wc g x1000_21 x1001_26 x1002_21) ∧ Aq (KeepBut w wc g none) ∧ Aq (Below w0.heap.size w0 wc))
      case first =>
       have H := HC27.out
       clear HC27
       by_cases c28 : x45_21 = true
       ·rw [if_pos c28] at H
        exact absurd H (by simp)
       ·replace c28 := Bool.eq_false_iff.mpr c28
        subst c28
        have H1 : (pr_head.l1 kj21 x1000_21 x1001_21 x1002_21) = some (r1, r2, r3, r4) := by rw [if_neg (show ¬ (false = true) by decide)] at H; exact H
        clear H
        have H := H1
        clear H1
        have H' := Aq.mk H
        clear H
        go_wp2
        repeat (go_quiet (fail); try go_wp2)
        go_loopg [] kj21 (fun kq w' => ∃ (x1001_3 : Int), Aq (pr_head.l1 kq x1000_21 x1001_3 x1002_21 = some (r1, r2, r3, r4)) ∧ Aq (kq ≤ kj21) ∧ Aq (IsS69 w0 w' g x1000_21 x1001_3 x1002_21) ∧ Aq (KeepBut w w' g none) ∧ Aq (Below w0.heap.size w0 w'))
        case atStart => exact ⟨(x1001_21), H', ⟨Nat.le_refl _⟩, ⟨by repeat (with_reducible first | exact HI0.out | apply zn | apply zo | apply zp | apply zq | apply zr | apply zt)⟩, ⟨by repeat (with_reducible first | exact HK.out | apply zm | apply zU | apply zV | apply zW)⟩, ⟨by repeat (with_reducible first | exact HB.out | apply zd | apply zb | apply zc | refine zf ?_ (IsS69.ge HI0.out))⟩⟩
        case round =>
         clear H'
         try clear c1
         try clear c2
         try clear p2
         try clear c3
         try clear c3b0
         try clear c4
         try clear c4b0
         try clear p6
         try clear c8
         try clear c8b0
         try clear c8b1
         try clear c9
         try clear c9b0
         try clear c9b1
         try clear c10
         try clear c10b0
         try clear c10b1
         try clear c12
         try clear c12b0
         try clear c13
         try clear c13b0
         try clear c14
         try clear c14b0
         try clear c14b1
         try clear c15
         try clear c15b0
         try clear c15b1
         try clear c24
         try clear c28
         try clear hcz16_0
         try clear hcz16_1
         try clear hcz16_2
         try clear hcz19_0
         try clear hcz19_1
         try clear hcz19_2
         try clear hcz23_0
         try clear hcz23_1
         try clear hcz23_2
         try clear hcz29_0
         try clear hcz29_1
         try clear hcz29_2
         try clear hcz6_0
         try clear hcz6_1
         try clear hcz6_2
         try clear hfz16_0
         try clear hfz16_1
         try clear hfz16_2
         try clear hfz19_0
         try clear hfz19_1
         try clear hfz19_2
         try clear hfz23_0
         try clear hfz23_1
         try clear hfz23_2
         try clear hfz29_0
         try clear hfz29_1
         try clear hfz29_2
         try clear hfz6_0
         try clear hfz6_1
         try clear hfz6_2
         try clear p2
         try clear p6
         obtain ⟨x1001_3, HA, HK3, HI0, HK, HB⟩ := hrel
         cases gk with
         | zero => exact absurd HA.out (by simp [pr_head.l1])
         | succ k3 =>
          have H := HA.out
          clear HA
          simp only [pr_head.l1] at H
          by_cases c30 : x1001_3 < (x1000_21.size : Int)
          ·rw [if_pos c30] at H
           have c30b0 : decide (x1001_3 < (x1000_21.size : Int)) = true := zk c30
           clear c30
           (first | rw [c30b0] | (simp only [i64_w, i32_w]; rw [c30b0]) | skip)
           by_cases c31 : 0 ≤ x1001_3
           ·rw [if_pos c31] at H
            have c31b0 : decide (0 ≤ x1001_3) = true := zk c31
            clear c31
            replace H := zu.mp H
            obtain ⟨t155, A330, H⟩ := H
            replace H : (if t155 = true then (pr_head.l1 k3 x1000_21 (wrap64 (x1001_3 + 1)) x1002_21) else (pr_head.j3 k3 x1000_21 x1001_3 x1002_21)) = some (r1, r2, r3, r4) := H
            have A33 := Aq.mk A330
            clear A330
            by_cases c34 : t155 = true
            ·subst c34
             have H1 : (pr_head.l1 k3 x1000_21 (wrap64 (x1001_3 + 1)) x1002_21) = some (r1, r2, r3, r4) := by rw [if_pos rfl] at H; exact H
             clear H
             have H := H1
             clear H1
             have H' := Aq.mk H
             clear H
             obtain ⟨HGz35, hgz35⟩ := HI0.out
             have hcz35_0 := cellS69_0 HGz35
             have hcz35_1 := cellS69_1 HGz35
             have hcz35_2 := cellS69_2 HGz35
             have hfz35_0 := za HGz35 0
             have hfz35_1 := za HGz35 1
             have hfz35_2 := za HGz35 2
             clear HGz35 hgz35
             have p32 : 0 ≤ (x1001_3 : Int) := zj (by assumption)
             have q32 : x1001_3 < (x1000_21.size : Int) := zj (by assumption)
             have hx32 := bt_at x1000_21 x1001_3
             replace p32 := eq_true p32
             replace q32 := eq_true q32
             go_wp2_with (first | (go_at_call 102; (with_reducible refine (purl_isLetter.calls (bt x1000_21 x1001_3) true _ A33.out).mono ?_); rintro e w' ⟨rfl, ⟨nd, rfl⟩⟩; (try (rw [drewN_self wr]; generalize hq_ : World.drewN wr _ = wr; have n0_ : Aq (IsS69 w0 wr g x1000_21 x1001_3 x1002_21) := ⟨by rw [← hq_]; exact (by repeat (with_reducible first | exact HI0.out | apply zn | apply zo | apply zp | apply zq | apply zr | apply zt))⟩; have n1_ : Aq (KeepBut w wr g none) := ⟨by rw [← hq_]; exact (by repeat (with_reducible first | exact HK.out | apply zm | apply zU | apply zV | apply zW))⟩; have n2_ : Aq (Below w0.heap.size w0 wr) := ⟨by rw [← hq_]; exact (by repeat (with_reducible first | exact HB.out | apply zd | apply zb | apply zc | refine zf ?_ (IsS69.ge HI0.out)))⟩; clear HI0 HK HB hq_; have HI0 := n0_; have HK := n1_; have HB := n2_; clear n0_ n1_ n2_))))
             repeat (go_quiet (first | (go_at_call 102; (with_reducible refine (purl_isLetter.calls (bt x1000_21 x1001_3) true _ A33.out).mono ?_); rintro e w' ⟨rfl, ⟨nd, rfl⟩⟩; (try first | exact ⟨rfl, _, zM _ _ _⟩ | exact ⟨rfl, _, Eq.trans (zM _ _ _) (congrArg (World.drewN _) (yh _ _ _))⟩))); try go_wp2_with (first | (go_at_call 102; (with_reducible refine (purl_isLetter.calls (bt x1000_21 x1001_3) true _ A33.out).mono ?_); rintro e w' ⟨rfl, ⟨nd, rfl⟩⟩; (try (rw [drewN_self wr]; generalize hq_ : World.drewN wr _ = wr; have n0_ : Aq (IsS69 w0 wr g x1000_21 x1001_3 x1002_21) := ⟨by rw [← hq_]; exact (by repeat (with_reducible first | exact HI0.out | apply zn | apply zo | apply zp | apply zq | apply zr | apply zt))⟩; have n1_ : Aq (KeepBut w wr g none) := ⟨by rw [← hq_]; exact (by repeat (with_reducible first | exact HK.out | apply zm | apply zU | apply zV | apply zW))⟩; have n2_ : Aq (Below w0.heap.size w0 wr) := ⟨by rw [← hq_]; exact (by repeat (with_reducible first | exact HB.out | apply zd | apply zb | apply zc | refine zf ?_ (IsS69.ge HI0.out)))⟩; clear HI0 HK HB hq_; have HI0 := n0_; have HK := n1_; have HB := n2_; clear n0_ n1_ n2_)))))
             go_roundg k3
             case measure => have := HK1.out; have := HJ21.out; have := HK3.out; omega
             case rel => exact ⟨(wrap64 (x1001_3 + 1)), H', ⟨by have := HK1.out; have := HJ21.out; have := HK3.out; omega⟩, ⟨by repeat (with_reducible first | exact HI0.out | apply zn | apply zo | apply zp | apply zq | apply zr | apply zt)⟩, ⟨by repeat (with_reducible first | exact HK.out | apply zm | apply zU | apply zV | apply zW)⟩, ⟨by repeat (with_reducible first | exact HB.out | apply zd | apply zb | apply zc | refine zf ?_ (IsS69.ge HI0.out))⟩⟩
            ·replace c34 := Bool.eq_false_iff.mpr c34
             subst c34
             have H1 : (pr_head.j3 k3 x1000_21 x1001_3 x1002_21) = some (r1, r2, r3, r4) := by rw [if_neg (show ¬ (false = true) by decide)] at H; exact H
             clear H
             have H := H1
             clear H1
             have H' := Aq.mk H
             clear H
             obtain ⟨HGz36, hgz36⟩ := HI0.out
             have hcz36_0 := cellS69_0 HGz36
             have hcz36_1 := cellS69_1 HGz36
             have hcz36_2 := cellS69_2 HGz36
             have hfz36_0 := za HGz36 0
             have hfz36_1 := za HGz36 1
             have hfz36_2 := za HGz36 2
             clear HGz36 hgz36
             have p32 : 0 ≤ (x1001_3 : Int) := zj (by assumption)
             have q32 : x1001_3 < (x1000_21.size : Int) := zj (by assumption)
             have hx32 := bt_at x1000_21 x1001_3
             replace p32 := eq_true p32
             replace q32 := eq_true q32
             go_wp2_with (first | (go_at_call 102; (with_reducible refine (purl_isLetter.calls (bt x1000_21 x1001_3) false _ A33.out).mono ?_); rintro e w' ⟨rfl, ⟨nd, rfl⟩⟩))
             repeat (go_quiet (first | (go_at_call 102; (with_reducible refine (purl_isLetter.calls (bt x1000_21 x1001_3) false _ A33.out).mono ?_); rintro e w' ⟨rfl, ⟨nd, rfl⟩⟩; (try first | exact ⟨rfl, _, zM _ _ _⟩ | exact ⟨rfl, _, Eq.trans (zM _ _ _) (congrArg (World.drewN _) (yh _ _ _))⟩))); try go_wp2_with (first | (go_at_call 102; (with_reducible refine (purl_isLetter.calls (bt x1000_21 x1001_3) false _ A33.out).mono ?_); rintro e w' ⟨rfl, ⟨nd, rfl⟩⟩)))
             go_meet
             case rel => exact ⟨_, (x1001_3), H', ⟨by have := HK1.out; have := HJ21.out; have := HK3.out; first | omega | exact Nat.le_refl _⟩, ⟨by repeat (with_reducible first | exact HI0.out | apply zn | apply zo | apply zp | apply zq | apply zr | apply zt)⟩, ⟨by repeat (with_reducible first | exact HK.out | apply zm | apply zU | apply zV | apply zW)⟩, ⟨by repeat (with_reducible first | exact HB.out | apply zd | apply zb | apply zc | refine zf ?_ (IsS69.ge HI0.out))⟩⟩
           ·rw [if_neg c31] at H
            exact absurd H (by simp)
          ·rw [if_neg c30] at H
           exact absurd H (by simp)
      case rest =>
       clear HC27
       try clear c1
       try clear c2
       try clear p2
       try clear c3
       try clear c3b0
       try clear p3
       try clear q3
       try clear hx3
       try clear c4
       try clear c4b0
       try clear p6
       try clear c8
       try clear c8b0
       try clear c8b1
       try clear c9
       try clear c9b0
       try clear c9b1
       try clear c10
       try clear c10b0
       try clear c10b1
       try clear c12
       try clear c12b0
       try clear c13
       try clear c13b0
       try clear c14
       try clear c14b0
       try clear c14b1
       try clear c15
       try clear c15b0
       try clear c15b1
       try clear c24
       try clear c28
       try clear c30
       try clear c30b0
       try clear c31
       try clear c31b0
       try clear p32
       try clear q32
       try clear hx32
       try clear c34
       try clear hcz16_0
       try clear hcz16_1
       try clear hcz16_2
       try clear hcz19_0
       try clear hcz19_1
       try clear hcz19_2
       try clear hcz23_0
       try clear hcz23_1
       try clear hcz23_2
       try clear hcz29_0
       try clear hcz29_1
       try clear hcz29_2
       try clear hcz35_0
       try clear hcz35_1
       try clear hcz35_2
       try clear hcz36_0
       try clear hcz36_1
       try clear hcz36_2
       try clear hcz37_0
       try clear hcz37_1
       try clear hcz37_2
       try clear hcz6_0
       try clear hcz6_1
       try clear hcz6_2
       try clear hfz16_0
       try clear hfz16_1
       try clear hfz16_2
       try clear hfz19_0
       try clear hfz19_1
       try clear hfz19_2
       try clear hfz23_0
       try clear hfz23_1
       try clear hfz23_2
       try clear hfz29_0
       try clear hfz29_1
       try clear hfz29_2
       try clear hfz35_0
       try clear hfz35_1
       try clear hfz35_2
       try clear hfz36_0
       try clear hfz36_1
       try clear hfz36_2
       try clear hfz37_0
       try clear hfz37_1
       try clear hfz37_2
       try clear hfz6_0
       try clear hfz6_1
       try clear hfz6_2
       try clear p2
       try clear p32
       try clear p6
       try clear q32
       obtain ⟨kq, x1001_26, HA, HJ26, HI0, HK, HB⟩ := hcut
       cases kq with
       | zero => exact absurd HA.out (by simp [pr_head.j3])
       | succ kj26 =>
        have H := HA.out
        clear HA
        simp only [pr_head.j3] at H
        by_cases c38 : 4 ≤ x1001_26
        ·rw [if_pos c38] at H
         have c38b0 := eq_true c38
         have c38b1 : decide (4 ≤ x1001_26) = true := zk c38
         clear c38
         by_cases c39 : x1001_26 ≤ (x1000_21.size : Int)
         ·rw [if_pos c39] at H
          have c39b0 := eq_true c39
          have c39b1 : decide (x1001_26 ≤ (x1000_21.size : Int)) = true := zk c39
          clear c39
          have HC40 := Aq.mk H
          clear H
          obtain ⟨HGz41, hgz41⟩ := HI0.out
          have hcz41_0 := cellS69_0 HGz41
          have hcz41_1 := cellS69_1 HGz41
          have hcz41_2 := cellS69_2 HGz41
          have hfz41_0 := za HGz41 0
          have hfz41_1 := za HGz41 1
          have hfz41_2 := za HGz41 2
          clear HGz41 hgz41
          go_upto_region 14 with (fail)
          repeat (go_quiet (fail); go_upto_region 14 with (fail))
          go_cut [97] (fun v97 wc => ∃ (kq : Nat) (x97_39 : Bool) (x1000_39 : ByteArray) (x1001_39 : Int) (x1002_39 : Int), v97 = .bool x97_39 ∧ Aq (pr_head.j4 kq (x1000_21.extract 4 (x1001_26 : Int).toNat) x97_39 x1000_39 x1001_39 x1002_39 = some (r1, r2, r3, r4)) ∧ Aq (kq ≤ kj26) ∧ Aq (IsS69 w0 wc g x1000_39 x1001_39 x1002_39) ∧ Aq (KeepBut w wc g none) ∧ Aq (Below w0.heap.size w0 wc))
          case first =>
           have H := HC40.out
           clear HC40
           by_cases c42 : (x1000_21.extract 4 (x1001_26 : Int).toNat).toList = ([] : List UInt8)
           ·rw [if_pos c42] at H
            exact absurd H (by simp)
           ·rw [if_neg c42] at H
            have c42b0 : ((x1000_21.extract 4 (x1001_26 : Int).toNat).toList == ([] : List UInt8)) = false := ye.mpr c42
            have c42b1 : ((x1000_21.extract 4 (x1001_26 : Int).toNat).toList != ([] : List UInt8)) = true := yd.mpr c42
            (first | rw [c42b0] | (simp only [i64_w, i32_w]; rw [c42b0]) | skip)
            replace H := zu.mp H
            obtain ⟨⟨t156, t157, t158, t159⟩, A430, H⟩ := H
            replace H : (pr_head.j4 kj26 (x1000_21.extract 4 (x1001_26 : Int).toNat) (t156 != 47) t157 t158 t159) = some (r1, r2, r3, r4) := H
            have A43 := Aq.mk A430
            clear A430
            have H' := Aq.mk H
            clear H
            go_wp2_with (first | (go_at_call 94; (with_reducible refine (pr_peek.calls g x1000_21 x1001_26 x1002_21 t156 t157 t158 t159 w0 _ ?side1 ?side2 A43.out).mono ?_); (case side1 => repeat (with_reducible first | exact HI0.out | apply zn | apply zo | apply zp | apply zq | apply zr | apply zt)); (case side2 => repeat (with_reducible first | exact HB.out | apply zd | apply zb | apply zc | refine zf ?_ (IsS69.ge HI0.out))); rintro e w44 ⟨rfl, hi, hb, hk⟩; have n0_ := Aq.mk (KeepBut.trans (by repeat (with_reducible first | exact HK.out | apply zm | apply zU | apply zV | apply zW)) hk (.inl rfl)); have n1_ := Aq.mk (hb); have n2_ := Aq.mk (hi); clear HK; clear HB; clear HI0; have HK := n0_; have HB := n1_; have HI0 := n2_; clear n0_ n1_ n2_; (try clear hb); (try clear hb2); (try clear hk); (try clear hi)))
            repeat (go_quiet (first | (go_at_call 94; (with_reducible refine (pr_peek.calls g x1000_21 x1001_26 x1002_21 t156 t157 t158 t159 w0 _ ?side1 ?side2 A43.out).mono ?_); (case side1 => repeat (with_reducible first | exact HI0.out | apply zn | apply zo | apply zp | apply zq | apply zr | apply zt)); (case side2 => repeat (with_reducible first | exact HB.out | apply zd | apply zb | apply zc | refine zf ?_ (IsS69.ge HI0.out))); rintro e w44 ⟨rfl, hi, hb, hk⟩; have n0_ := Aq.mk (KeepBut.trans (by repeat (with_reducible first | exact HK.out | apply zm | apply zU | apply zV | apply zW)) hk (.inl rfl)); have n1_ := Aq.mk (hb); have n2_ := Aq.mk (hi); clear HK; clear HB; clear HI0; have HK := n0_; have HB := n1_; have HI0 := n2_; clear n0_ n1_ n2_; (try clear hb); (try clear hb2); (try clear hk); (try clear hi))); try go_wp2_with (first | (go_at_call 94; (with_reducible refine (pr_peek.calls g x1000_21 x1001_26 x1002_21 t156 t157 t158 t159 w0 _ ?side1 ?side2 A43.out).mono ?_); (case side1 => repeat (with_reducible first | exact HI0.out | apply zn | apply zo | apply zp | apply zq | apply zr | apply zt)); (case side2 => repeat (with_reducible first | exact HB.out | apply zd | apply zb | apply zc | refine zf ?_ (IsS69.ge HI0.out))); rintro e w44 ⟨rfl, hi, hb, hk⟩; have n0_ := Aq.mk (KeepBut.trans (by repeat (with_reducible first | exact HK.out | apply zm | apply zU | apply zV | apply zW)) hk (.inl rfl)); have n1_ := Aq.mk (hb); have n2_ := Aq.mk (hi); clear HK; clear HB; clear HI0; have HK := n0_; have HB := n1_; have HI0 := n2_; clear n0_ n1_ n2_; (try clear hb); (try clear hb2); (try clear hk); (try clear hi))))
            go_meet
            case rel => exact ⟨_, ((t156 != 47)), (t157), (t158), (t159), (by first | rfl | (simp; done) | (simp [*]; done)), H', ⟨by have := HK1.out; have := HJ21.out; have := HJ26.out; first | omega | exact Nat.le_refl _⟩, ⟨by repeat (with_reducible first | exact HI0.out | apply zn | apply zo | apply zp | apply zq | apply zr | apply zt)⟩, ⟨by repeat (with_reducible first | exact HK.out | apply zm | apply zU | apply zV | apply zW)⟩, ⟨by repeat (with_reducible first | exact HB.out | apply zd | apply zb | apply zc | refine zf ?_ (IsS69.ge HI0.out))⟩⟩
          case rest =>
           clear HC40
           try clear c1
           try clear c2
           try clear p2
           try clear c3
           try clear c3b0
           try clear p3
           try clear q3
           try clear hx3
           try clear c4
           try clear c4b0
           try clear p6
           try clear c8
           try clear c8b0
           try clear c8b1
           try clear c9
           try clear c9b0
           try clear c9b1
           try clear c10
           try clear c10b0
           try clear c10b1
           try clear c12
           try clear c12b0
           try clear c13
           try clear c13b0
           try clear c14
           try clear c14b0
           try clear c14b1
           try clear c15
           try clear c15b0
           try clear c15b1
           try clear c24
           try clear c28
           try clear c30
           try clear c30b0
           try clear c31
           try clear c31b0
           try clear p32
           try clear q32
           try clear hx32
           try clear c34
           try clear c38
           try clear c38b0
           try clear c38b1
           try clear c39
           try clear c39b0
           try clear c39b1
           try clear c42
           try clear c42b0
           try clear c42b1
           try clear hcz16_0
           try clear hcz16_1
           try clear hcz16_2
           try clear hcz19_0
           try clear hcz19_1
           try clear hcz19_2
           try clear hcz23_0
           try clear hcz23_1
           try clear hcz23_2
           try clear hcz29_0
           try clear hcz29_1
           try clear hcz29_2
           try clear hcz35_0
           try clear hcz35_1
           try clear hcz35_2
           try clear hcz36_0
           try clear hcz36_1
           try clear hcz36_2
           try clear hcz37_0
           try clear hcz37_1
           try clear hcz37_2
           try clear hcz41_0
           try clear hcz41_1
           try clear hcz41_2
           try clear hcz6_0
           try clear hcz6_1
           try clear hcz6_2
           try clear hfz16_0
           try clear hfz16_1
           try clear hfz16_2
           try clear hfz19_0
           try clear hfz19_1
           try clear hfz19_2
           try clear hfz23_0
           try clear hfz23_1
           try clear hfz23_2
           try clear hfz29_0
           try clear hfz29_1
           try clear hfz29_2
           try clear hfz35_0
           try clear hfz35_1
           try clear hfz35_2
           try clear hfz36_0
           try clear hfz36_1
           try clear hfz36_2
           try clear hfz37_0
           try clear hfz37_1
           try clear hfz37_2
           try clear hfz41_0
           try clear hfz41_1
           try clear hfz41_2
           try clear hfz6_0
           try clear hfz6_1
           try clear hfz6_2
           try clear p2
           try clear p3
           try clear p32
           try clear p6
           try clear q3
           try clear q32
           obtain ⟨kq, x97_39, x1000_39, x1001_39, x1002_39, rfl, HA, HJ39, HI0, HK, HB⟩ := hcut
           cases kq with
           | zero => exact absurd HA.out (by simp [pr_head.j4])
           | succ kj39 =>
            have H := HA.out
            clear HA
            simp only [pr_head.j4] at H
            by_cases c45 : x97_39 = true
            ·rw [if_pos c45] at H
             exact absurd H (by simp)
            ·replace c45 := Bool.eq_false_iff.mpr c45
             subst c45
             have H1 : ((purl_small.f (x1000_21.extract 4 (x1001_26 : Int).toNat)).bind fun t163 => (some (t163, x1000_39, wrap64 (x1001_39 + 1), x1002_39))) = some (r1, r2, r3, r4) := by rw [if_neg (show ¬ (false = true) by decide)] at H; exact H
             clear H
             have H := H1
             clear H1
             replace H := zu.mp H
             obtain ⟨t163, A490, H⟩ := H
             replace H : (some (t163, x1000_39, wrap64 (x1001_39 + 1), x1002_39)) = some (r1, r2, r3, r4) := H
             have A49 := Aq.mk A490
             clear A490
             simp only [zH, zI] at H
             obtain ⟨rfl, rfl, rfl, rfl⟩ := H
             obtain ⟨HGz50, hgz50⟩ := HI0.out
             have hcz50_0 := cellS69_0 HGz50
             have hcz50_1 := cellS69_1 HGz50
             have hcz50_2 := cellS69_2 HGz50
             have hfz50_0 := za HGz50 0
             have hfz50_1 := za HGz50 1
             have hfz50_2 := za HGz50 2
             clear HGz50 hgz50
             go_wp2_with (first | ((with_reducible refine gate_callee (f := 100) rfl ?_); refine goesL_ (some 112) rfl rfl Tryd.func100 (by kernel_rfl) rfl #[.string (x1000_21.extract 4 (x1001_26 : Int).toNat)] rfl (by (try simp only [zP, zQ, zR]); first | done | rfl | (simp only [zS, zT]; rfl)) ?_; (with_reducible refine (purl_small.calls (x1000_21.extract 4 (x1001_26 : Int).toNat) t163 _ A49.out).mono ?_); rintro e w51 ⟨rfl, hb⟩; refine ⟨_, rfl, ?_⟩; have n0_ := Aq.mk (IsS69.below (show IsS69 w0 (wc.setCell ⟨g, 1, none⟩ (.int .i64 (wrap64 (x1001_39 + 1)))) g x1000_39 (wrap64 (x1001_39 + 1)) x1002_39 from by repeat (with_reducible first | exact HI0.out | apply zn | apply zo | apply zp | apply zq | apply zr | apply zt)) hb); have n1_ := Aq.mk (KeepBut.trans (by repeat (with_reducible first | exact HK.out | apply zm | apply zU | apply zV | apply zW)) (KeepBut.of_below hb g none) (.inl rfl)); have n2_ := Aq.mk (zv (by repeat (with_reducible first | exact HB.out | apply zd | apply zb | apply zc | refine zf ?_ (IsS69.ge HI0.out))) hb); clear HI0; clear HK; clear HB; have HI0 := n0_; have HK := n1_; have HB := n2_; clear n0_ n1_ n2_; (try clear hb); (try clear hb2); (try clear hk); (try clear hi)))
             repeat (go_quiet (first | ((with_reducible refine gate_callee (f := 100) rfl ?_); refine goesL_ (some 112) rfl rfl Tryd.func100 (by kernel_rfl) rfl #[.string (x1000_21.extract 4 (x1001_26 : Int).toNat)] rfl (by (try simp only [zP, zQ, zR]); first | done | rfl | (simp only [zS, zT]; rfl)) ?_; (with_reducible refine (purl_small.calls (x1000_21.extract 4 (x1001_26 : Int).toNat) t163 _ A49.out).mono ?_); rintro e w51 ⟨rfl, hb⟩; refine ⟨_, rfl, ?_⟩; have n0_ := Aq.mk (IsS69.below (show IsS69 w0 (wc.setCell ⟨g, 1, none⟩ (.int .i64 (wrap64 (x1001_39 + 1)))) g x1000_39 (wrap64 (x1001_39 + 1)) x1002_39 from by repeat (with_reducible first | exact HI0.out | apply zn | apply zo | apply zp | apply zq | apply zr | apply zt)) hb); have n1_ := Aq.mk (KeepBut.trans (by repeat (with_reducible first | exact HK.out | apply zm | apply zU | apply zV | apply zW)) (KeepBut.of_below hb g none) (.inl rfl)); have n2_ := Aq.mk (zv (by repeat (with_reducible first | exact HB.out | apply zd | apply zb | apply zc | refine zf ?_ (IsS69.ge HI0.out))) hb); clear HI0; clear HK; clear HB; have HI0 := n0_; have HK := n1_; have HB := n2_; clear n0_ n1_ n2_; (try clear hb); (try clear hb2); (try clear hk); (try clear hi))); try go_wp2_with (first | ((with_reducible refine gate_callee (f := 100) rfl ?_); refine goesL_ (some 112) rfl rfl Tryd.func100 (by kernel_rfl) rfl #[.string (x1000_21.extract 4 (x1001_26 : Int).toNat)] rfl (by (try simp only [zP, zQ, zR]); first | done | rfl | (simp only [zS, zT]; rfl)) ?_; (with_reducible refine (purl_small.calls (x1000_21.extract 4 (x1001_26 : Int).toNat) t163 _ A49.out).mono ?_); rintro e w51 ⟨rfl, hb⟩; refine ⟨_, rfl, ?_⟩; have n0_ := Aq.mk (IsS69.below (show IsS69 w0 (wc.setCell ⟨g, 1, none⟩ (.int .i64 (wrap64 (x1001_39 + 1)))) g x1000_39 (wrap64 (x1001_39 + 1)) x1002_39 from by repeat (with_reducible first | exact HI0.out | apply zn | apply zo | apply zp | apply zq | apply zr | apply zt)) hb); have n1_ := Aq.mk (KeepBut.trans (by repeat (with_reducible first | exact HK.out | apply zm | apply zU | apply zV | apply zW)) (KeepBut.of_below hb g none) (.inl rfl)); have n2_ := Aq.mk (zv (by repeat (with_reducible first | exact HB.out | apply zd | apply zb | apply zc | refine zf ?_ (IsS69.ge HI0.out))) hb); clear HI0; clear HK; clear HB; have HI0 := n0_; have HK := n1_; have HB := n2_; clear n0_ n1_ n2_; (try clear hb); (try clear hb2); (try clear hk); (try clear hi))))
             go_ret
             exact ⟨by first | rfl | (simp [yl, ym] <;> rfl) | (simp [*, yl, ym] <;> rfl), by repeat (with_reducible first | exact HI0.out | apply zn | apply zo | apply zp | apply zq | apply zr | apply zt), by repeat (with_reducible first | exact HB.out | apply zd | apply zb | apply zc | refine zf ?_ (IsS69.ge HI0.out)), by repeat (with_reducible first | exact HK.out | apply zm | apply zU | apply zV | apply zW)⟩
         ·rw [if_neg c39] at H
          exact absurd H (by simp)
        ·rw [if_neg c38] at H
         exact absurd H (by simp)
end Go.Proofs.YtmnfjbmhlabdaaaDoor.Pr
