-- Written by a program of the session (wip/pr.py) out of the translation; Lean checks it.
import Derived.Test.YtmnfjbmhlabdaaaDoorDXa
import Derived.Test.YtmnfjbmhlabdaaaDoorDXb
import Derived.Test.YtmnfjbmhlabdaaaDoorDPrx0
import Derived.Test.YtmnfjbmhlabdaaaDoorDPrx4
import Derived.Test.YtmnfjbmhlabdaaaDoorDEc
namespace Go.Proofs.YtmnfjbmhlabdaaaDoor.Pr
open Go.RowKit Go.Proofs.YtmnfjbmhlabdaaaDoorW.PrintWords Go.Proofs.YtmnfjbmhlabdaaaDoorW.PrintLast Go.Proofs.YtmnfjbmhlabdaaaDoorW.PrintMore
attribute [local go_sem] max2_int min2_int max_two min_two max_three min_three max_four min_four
set_option linter.unusedVariables false
set_option linter.unusedSimpArgs false
mutual
def purl_hex.j0 : Nat → Int → Bool → Option (Int)
 | 0, _, _ => none
 | k + 1, x0, x3 => if x3 = true then (some ((x0 - 48) % 256)) else (if x0 ≥ 97 then (purl_hex.j1 k x0 (decide (x0 ≤ 102))) else (purl_hex.j1 k x0 false))
def purl_hex.j1 : Nat → Int → Bool → Option (Int)
 | 0, _, _ => none
 | k + 1, x0, x13 => if x13 = true then (some (((x0 - 97) % 256) + 10)) else (if x0 ≥ 65 then (if x0 ≤ 70 then (some (((x0 - 65) % 256) + 10)) else (some (-1))) else (some (-1)))
end
def purl_hex.f (k : Nat) (a0 : Int) : Option (Int) := if a0 ≥ 48 then (purl_hex.j0 k a0 (decide (a0 ≤ 57))) else (purl_hex.j0 k a0 false)
theorem purl_hex.mono_l : ∀ k, (∀ y0 y1, LeO (purl_hex.j0 k y0 y1) (purl_hex.j0 (k + 1) y0 y1)) ∧ (∀ y0 y1, LeO (purl_hex.j1 k y0 y1) (purl_hex.j1 (k + 1) y0 y1))
 | 0 => ⟨fun _ _ r h => by simp [purl_hex.j0] at h, fun _ _ r h => by simp [purl_hex.j1] at h⟩
 | k + 1 => by
  obtain ⟨ih0, ih1⟩ := purl_hex.mono_l k
  refine ⟨?_, ?_⟩
  ·intro y0 y1
   unfold purl_hex.j0
   repeat' first
   | (with_reducible exact ya _)
   | (with_reducible exact yb _)
   | (with_reducible refine zZ ?_ ?_)
   | (with_reducible refine zY ?_ (fun _ => ?_))
   | exact ih0 _ _
   | exact ih1 _ _
   | exact yb _
   | refine zZ ?_ ?_
   | refine zY ?_ (fun _ => ?_)
  ·intro y0 y1
   unfold purl_hex.j1
   repeat' first
   | (with_reducible exact ya _)
   | (with_reducible exact yb _)
   | (with_reducible refine zZ ?_ ?_)
   | (with_reducible refine zY ?_ (fun _ => ?_))
   | exact ih0 _ _
   | exact ih1 _ _
   | exact yb _
   | refine zZ ?_ ?_
   | refine zY ?_ (fun _ => ?_)
theorem purl_hex.mono : ∀ a0 k, LeO (purl_hex.f k a0) (purl_hex.f (k + 1) a0) := by
 intro a0 k
 obtain ⟨ih0, ih1⟩ := purl_hex.mono_l k
 unfold purl_hex.f
 repeat' first
   | (with_reducible exact ya _)
   | (with_reducible exact yb _)
   | (with_reducible refine zZ ?_ ?_)
   | (with_reducible refine zY ?_ (fun _ => ?_))
   | exact ih0 _ _
   | exact ih1 _ _
   | exact yb _
   | refine zZ ?_ ?_
   | refine zY ?_ (fun _ => ?_)
def pr_octet.l0 : Nat → Int → Int → ByteArray → Int → Int → Option (Int × Bool × ByteArray × Int × Int)
 | 0, _, _, _, _, _ => none
 | k + 1, x5, x6, x1000, x1001, x1002 => if x6 ≤ 2 then (if (wrap64 (x1001 + x6)) < (x1000.size : Int) then (if 0 ≤ (wrap64 (x1001 + x6)) then ((purl_hex.f k (bt x1000 (wrap64 (x1001 + x6)))).bind fun t165 => (if t165 < 0 then ((pr_fail.f x1000 x1001 x1002 (wrap64 (x1001 + x6))).bind fun bt166 => (some (0, false, bt166.1, bt166.2.1, bt166.2.2))) else (pr_octet.l0 k (wrap64 ((wrap64 (16 * x5)) + t165)) (wrap64 (x6 + 1)) x1000 x1001 x1002))) else (none)) else (if (-1) < 0 then ((pr_fail.f x1000 x1001 x1002 (wrap64 (x1001 + x6))).bind fun bt169 => (some (0, false, bt169.1, bt169.2.1, bt169.2.2))) else (pr_octet.l0 k (wrap64 ((wrap64 (16 * x5)) + (-1))) (wrap64 (x6 + 1)) x1000 x1001 x1002))) else (some ((x5) % 256, true, x1000, wrap64 (x1001 + 3), x1002))
def pr_octet.f (k : Nat) (s0_0 : ByteArray) (s0_1 : Int) (s0_2 : Int) : Option (Int × Bool × ByteArray × Int × Int) := if s0_1 ≥ (s0_0.size : Int) then (some (0, false, s0_0, s0_1, s0_2)) else (if 0 ≤ s0_1 then (if s0_1 < (s0_0.size : Int) then (if (bt s0_0 s0_1) = 37 then (none) else (if (bt s0_0 s0_1) < 33 then (none) else (if (bt s0_0 s0_1) > 126 then (none) else ((lib_IndexByte.f (⟨#[47, 64, 63, 35, 38, 61]⟩ : ByteArray) (bt s0_0 s0_1)).bind fun t164 => (if t164 ≥ 0 then (some (0, false, s0_0, s0_1, s0_2)) else (some (bt s0_0 s0_1, true, s0_0, wrap64 (s0_1 + 1), s0_2))))))) else (none)) else (none))
theorem pr_octet.mono_l : ∀ k, (∀ y0 y1 y2 y3 y4, LeO (pr_octet.l0 k y0 y1 y2 y3 y4) (pr_octet.l0 (k + 1) y0 y1 y2 y3 y4))
 | 0 => fun _ _ _ _ _ r h => by simp [pr_octet.l0] at h
 | k + 1 => by
  have ih0 := pr_octet.mono_l k
  ·intro y0 y1 y2 y3 y4
   unfold pr_octet.l0
   repeat' first
   | (with_reducible exact ya _)
   | (with_reducible exact yb _)
   | (with_reducible refine zZ ?_ ?_)
   | (with_reducible refine zY ?_ (fun _ => ?_))
   | exact ih0 _ _ _ _ _
   | exact purl_hex.mono _ _
   | exact yb _
   | refine zZ ?_ ?_
   | refine zY ?_ (fun _ => ?_)
theorem pr_octet.mono : ∀ a0 a1 a2 k, LeO (pr_octet.f k a0 a1 a2) (pr_octet.f (k + 1) a0 a1 a2) := by
 intro a0 a1 a2 k
 have ih0 := pr_octet.mono_l k
 unfold pr_octet.f
 repeat' first
   | (with_reducible exact ya _)
   | (with_reducible exact yb _)
   | (with_reducible refine zZ ?_ ?_)
   | (with_reducible refine zY ?_ (fun _ => ?_))
   | exact ih0 _ _ _ _ _
   | exact purl_hex.mono _ _
   | exact yb _
   | refine zZ ?_ ?_
   | refine zY ?_ (fun _ => ?_)
set_option maxHeartbeats 8000000 in
set_option maxRecDepth 100000 in
theorem pr_octet.calls (k : Nat) (g : Nat) (s0_0 : ByteArray) (s0_1 : Int) (s0_2 : Int) (r1 : Int) (r2 : Bool) (r3 : ByteArray) (r4 : Int) (r5 : Int) (w0 w : World) (hI : IsS69 w0 w g s0_0 s0_1 s0_2) (hB : Below w0.heap.size w0 w) (h : pr_octet.f k s0_0 s0_1 s0_2 = some (r1, r2, r3, r4, r5)) :
  Calls Tryd.prog 123 #[.pointer (some ⟨g, 0, none⟩)] w fun e w' => e = .returned (.tuple #[.int .u8 r1, .bool r2]) ∧ IsS69 w0 w' g r3 r4 r5 ∧ Below w0.heap.size w0 w' ∧ KeepBut w w' g none := by
 have HI0 := Aq.mk hI
 have HK := Aq.mk (KeepBut.refl w g none)
 have HL := Aq.mk hB.size
 clear hI
 have HW0 := Aq.mk hB.size
 have HB := Aq.mk hB
 clear hB
 have H : (if s0_1 ≥ (s0_0.size : Int) then (some (0, false, s0_0, s0_1, s0_2)) else (if 0 ≤ s0_1 then (if s0_1 < (s0_0.size : Int) then (if (bt s0_0 s0_1) = 37 then (none) else (if (bt s0_0 s0_1) < 33 then (none) else (if (bt s0_0 s0_1) > 126 then (none) else ((lib_IndexByte.f (⟨#[47, 64, 63, 35, 38, 61]⟩ : ByteArray) (bt s0_0 s0_1)).bind fun t164 => (if t164 ≥ 0 then (some (0, false, s0_0, s0_1, s0_2)) else (some (bt s0_0 s0_1, true, s0_0, wrap64 (s0_1 + 1), s0_2))))))) else (none)) else (none))) = some (r1, r2, r3, r4, r5) := h
 clear h
 by_cases c2 : s0_1 ≥ (s0_0.size : Int)
 ·rw [if_pos c2] at H
  have c2b0 : decide ((s0_0.size : Int) ≤ s0_1) = true := zk c2
  clear c2
  simp only [zH, zI] at H
  obtain ⟨rfl, rfl, rfl, rfl, rfl⟩ := H
  obtain ⟨HGz3, hgz3⟩ := HI0.out
  have hcz3_0 := cellS69_0 HGz3
  have hcz3_1 := cellS69_1 HGz3
  have hcz3_2 := cellS69_2 HGz3
  have hfz3_0 := za HGz3 0
  have hfz3_1 := za HGz3 1
  have hfz3_2 := za HGz3 2
  clear HGz3 hgz3
  go_enter Tryd.func123, Tryd.ntmps123
  go_wp2
  repeat (go_quiet (fail); try go_wp2)
  go_ret2
  exact ⟨by first | rfl | (simp [yl, ym] <;> rfl) | (simp [*, yl, ym] <;> rfl), by repeat (with_reducible first | exact HI0.out | apply zn | apply zo | apply zp | apply zq | apply zr | apply zt), by repeat (with_reducible first | exact HB.out | apply zd | apply zb | apply zc | refine zf ?_ (IsS69.ge HI0.out)), by repeat (with_reducible first | exact HK.out | apply zm | apply zU | apply zV | apply zW)⟩
 ·rw [if_neg c2] at H
  have c2b0 : decide ((s0_0.size : Int) ≤ s0_1) = false := zl c2
  clear c2
  by_cases c4 : 0 ≤ s0_1
  ·rw [if_pos c4] at H
   have c4b0 : decide (0 ≤ s0_1) = true := zk c4
   clear c4
   by_cases c5 : s0_1 < (s0_0.size : Int)
   ·rw [if_pos c5] at H
    have c5b0 : decide (s0_1 < (s0_0.size : Int)) = true := zk c5
    clear c5
    by_cases c7 : (bt s0_0 s0_1) = 37
    ·rw [if_pos c7] at H
     exact absurd H (by simp)
    ·rw [if_neg c7] at H
     have c7b0 : ((bt s0_0 s0_1) == 37) = false := ye.mpr c7
     have c7b1 : ((bt s0_0 s0_1) != 37) = true := yd.mpr c7
     by_cases c26 : (bt s0_0 s0_1) < 33
     ·rw [if_pos c26] at H
      exact absurd H (by simp)
     ·rw [if_neg c26] at H
      have c26b0 : decide ((bt s0_0 s0_1) < 33) = false := zl c26
      clear c26
      by_cases c28 : (bt s0_0 s0_1) > 126
      ·rw [if_pos c28] at H
       exact absurd H (by simp)
      ·rw [if_neg c28] at H
       have c28b0 : decide (126 < (bt s0_0 s0_1)) = false := zl c28
       clear c28
       replace H := zu.mp H
       obtain ⟨t164, A300, H⟩ := H
       replace H : (if t164 ≥ 0 then (some (0, false, s0_0, s0_1, s0_2)) else (some (bt s0_0 s0_1, true, s0_0, wrap64 (s0_1 + 1), s0_2))) = some (r1, r2, r3, r4, r5) := H
       have A30 := Aq.mk A300
       clear A300
       by_cases c31 : t164 ≥ 0
       ·rw [if_pos c31] at H
        have c31b0 : decide (0 ≤ t164) = true := zk c31
        clear c31
        simp only [zH, zI] at H
        obtain ⟨rfl, rfl, rfl, rfl, rfl⟩ := H
        obtain ⟨HGz32, hgz32⟩ := HI0.out
        have hcz32_0 := cellS69_0 HGz32
        have hcz32_1 := cellS69_1 HGz32
        have hcz32_2 := cellS69_2 HGz32
        have hfz32_0 := za HGz32 0
        have hfz32_1 := za HGz32 1
        have hfz32_2 := za HGz32 2
        clear HGz32 hgz32
        have p6 : 0 ≤ (s0_1 : Int) := zj (by assumption)
        have q6 : s0_1 < (s0_0.size : Int) := zj (by assumption)
        have hx6 := bt_at s0_0 s0_1
        replace p6 := eq_true p6
        replace q6 := eq_true q6
        go_enter Tryd.func123, Tryd.ntmps123
        go_wp2_with (first | (go_at_call 69; (with_reducible refine (lib_IndexByte.calls (⟨#[47, 64, 63, 35, 38, 61]⟩ : ByteArray) (bt s0_0 s0_1) t164 _ A30.out).mono ?_); rintro e w' ⟨rfl, ⟨nd, rfl⟩⟩; (try first | exact ⟨rfl, _, zM _ _ _⟩ | exact ⟨rfl, _, Eq.trans (zM _ _ _) (congrArg (World.drewN _) (yh _ _ _))⟩)))
        repeat (go_quiet (first | (go_at_call 69; (with_reducible refine (lib_IndexByte.calls (⟨#[47, 64, 63, 35, 38, 61]⟩ : ByteArray) (bt s0_0 s0_1) t164 _ A30.out).mono ?_); rintro e w' ⟨rfl, ⟨nd, rfl⟩⟩; (try first | exact ⟨rfl, _, zM _ _ _⟩ | exact ⟨rfl, _, Eq.trans (zM _ _ _) (congrArg (World.drewN _) (yh _ _ _))⟩))); try go_wp2_with (first | (go_at_call 69; (with_reducible refine (lib_IndexByte.calls (⟨#[47, 64, 63, 35, 38, 61]⟩ : ByteArray) (bt s0_0 s0_1) t164 _ A30.out).mono ?_); rintro e w' ⟨rfl, ⟨nd, rfl⟩⟩; (try first | exact ⟨rfl, _, zM _ _ _⟩ | exact ⟨rfl, _, Eq.trans (zM _ _ _) (congrArg (World.drewN _) (yh _ _ _))⟩))))
        go_ret2
        exact ⟨by first | rfl | (simp [yl, ym] <;> rfl) | (simp [*, yl, ym] <;> rfl), by repeat (with_reducible first | exact HI0.out | apply zn | apply zo | apply zp | apply zq | apply zr | apply zt), by repeat (with_reducible first | exact HB.out | apply zd | apply zb | apply zc | refine zf ?_ (IsS69.ge HI0.out)), by repeat (with_reducible first | exact HK.out | apply zm | apply zU | apply zV | apply zW)⟩
       ·rw [if_neg c31] at H
        have c31b0 : decide (0 ≤ t164) = false := zl c31
        clear c31
        simp only [zH, zI] at H
        obtain ⟨rfl, rfl, rfl, rfl, rfl⟩ := H
        obtain ⟨HGz33, hgz33⟩ := HI0.out
        have hcz33_0 := cellS69_0 HGz33
        have hcz33_1 := cellS69_1 HGz33
        have hcz33_2 := cellS69_2 HGz33
        have hfz33_0 := za HGz33 0
        have hfz33_1 := za HGz33 1
        have hfz33_2 := za HGz33 2
        clear HGz33 hgz33
        have p6 : 0 ≤ (s0_1 : Int) := zj (by assumption)
        have q6 : s0_1 < (s0_0.size : Int) := zj (by assumption)
        have hx6 := bt_at s0_0 s0_1
        replace p6 := eq_true p6
        replace q6 := eq_true q6
        go_enter Tryd.func123, Tryd.ntmps123
        go_wp2_with (first | (go_at_call 69; (with_reducible refine (lib_IndexByte.calls (⟨#[47, 64, 63, 35, 38, 61]⟩ : ByteArray) (bt s0_0 s0_1) t164 _ A30.out).mono ?_); rintro e w' ⟨rfl, ⟨nd, rfl⟩⟩; (try first | exact ⟨rfl, _, zM _ _ _⟩ | exact ⟨rfl, _, Eq.trans (zM _ _ _) (congrArg (World.drewN _) (yh _ _ _))⟩)))
        repeat (go_quiet (first | (go_at_call 69; (with_reducible refine (lib_IndexByte.calls (⟨#[47, 64, 63, 35, 38, 61]⟩ : ByteArray) (bt s0_0 s0_1) t164 _ A30.out).mono ?_); rintro e w' ⟨rfl, ⟨nd, rfl⟩⟩; (try first | exact ⟨rfl, _, zM _ _ _⟩ | exact ⟨rfl, _, Eq.trans (zM _ _ _) (congrArg (World.drewN _) (yh _ _ _))⟩))); try go_wp2_with (first | (go_at_call 69; (with_reducible refine (lib_IndexByte.calls (⟨#[47, 64, 63, 35, 38, 61]⟩ : ByteArray) (bt s0_0 s0_1) t164 _ A30.out).mono ?_); rintro e w' ⟨rfl, ⟨nd, rfl⟩⟩; (try first | exact ⟨rfl, _, zM _ _ _⟩ | exact ⟨rfl, _, Eq.trans (zM _ _ _) (congrArg (World.drewN _) (yh _ _ _))⟩))))
        go_ret2
        exact ⟨by first | rfl | (simp [yl, ym] <;> rfl) | (simp [*, yl, ym] <;> rfl), by repeat (with_reducible first | exact HI0.out | apply zn | apply zo | apply zp | apply zq | apply zr | apply zt), by repeat (with_reducible first | exact HB.out | apply zd | apply zb | apply zc | refine zf ?_ (IsS69.ge HI0.out)), by repeat (with_reducible first | exact HK.out | apply zm | apply zU | apply zV | apply zW)⟩
   ·rw [if_neg c5] at H
    exact absurd H (by simp)
  ·rw [if_neg c4] at H
   exact absurd H (by simp)
def pr_part.l0 : Nat → List Int → ByteArray → Int → Int → Option (ByteArray × ByteArray × Int × Int)
 | 0, _, _, _, _ => none
 | k + 1, x3, x1000, x1001, x1002 => if x1002 < 0 then ((pr_octet.f k x1000 x1001 x1002).bind fun bt172 => (if bt172.2.1 = true then (if x3.length < 140737488355328 then (pr_part.l0 k (x3 ++ [bt172.1]) bt172.2.2.1 bt172.2.2.2.1 bt172.2.2.2.2) else (none)) else (if (x3.length : Int) = 0 then (none) else (some (strOfNums x3, bt172.2.2.1, bt172.2.2.2.1, bt172.2.2.2.2))))) else (none)
def pr_part.f (k : Nat) (s0_0 : ByteArray) (s0_1 : Int) (s0_2 : Int) : Option (ByteArray × ByteArray × Int × Int) := pr_part.l0 k ([] : List Int) s0_0 s0_1 s0_2
theorem pr_part.mono_l : ∀ k, (∀ y0 y1 y2 y3, LeO (pr_part.l0 k y0 y1 y2 y3) (pr_part.l0 (k + 1) y0 y1 y2 y3))
 | 0 => fun _ _ _ _ r h => by simp [pr_part.l0] at h
 | k + 1 => by
  have ih0 := pr_part.mono_l k
  ·intro y0 y1 y2 y3
   unfold pr_part.l0
   repeat' first
   | (with_reducible exact ya _)
   | (with_reducible exact yb _)
   | (with_reducible refine zZ ?_ ?_)
   | (with_reducible refine zY ?_ (fun _ => ?_))
   | exact ih0 _ _ _ _
   | exact pr_octet.mono _ _ _ _
   | exact yb _
   | refine zZ ?_ ?_
   | refine zY ?_ (fun _ => ?_)
theorem pr_part.mono : ∀ a0 a1 a2 k, LeO (pr_part.f k a0 a1 a2) (pr_part.f (k + 1) a0 a1 a2) := by
 intro a0 a1 a2 k
 have ih0 := pr_part.mono_l k
 unfold pr_part.f
 repeat' first
   | (with_reducible exact ya _)
   | (with_reducible exact yb _)
   | (with_reducible refine zZ ?_ ?_)
   | (with_reducible refine zY ?_ (fun _ => ?_))
   | exact ih0 _ _ _ _
   | exact pr_octet.mono _ _ _ _
   | exact yb _
   | refine zZ ?_ ?_
   | refine zY ?_ (fun _ => ?_)
set_option maxHeartbeats 8000000 in
set_option maxRecDepth 100000 in
theorem pr_part.calls (k : Nat) (g : Nat) (s0_0 : ByteArray) (s0_1 : Int) (s0_2 : Int) (r1 : ByteArray) (r2 : ByteArray) (r3 : Int) (r4 : Int) (w0 w : World) (hI : IsS69 w0 w g s0_0 s0_1 s0_2) (hB : Below w0.heap.size w0 w) (h : pr_part.f k s0_0 s0_1 s0_2 = some (r1, r2, r3, r4)) :
  Calls Tryd.prog 95 #[.pointer (some ⟨g, 0, none⟩)] w fun e w' => e = .returned (.string r1) ∧ IsS69 w0 w' g r2 r3 r4 ∧ Below w0.heap.size w0 w' ∧ KeepBut w w' g none := by
 have HI0 := Aq.mk hI
 have HK := Aq.mk (KeepBut.refl w g none)
 have HL := Aq.mk hB.size
 clear hI
 have HW0 := Aq.mk hB.size
 have HB := Aq.mk hB
 clear hB
 have H : (pr_part.l0 k ([] : List Int) s0_0 s0_1 s0_2) = some (r1, r2, r3, r4) := h
 clear h
 have H' := Aq.mk H
 clear H
 go_enter Tryd.func95, Tryd.ntmps95
 go_wp2
 go_loopg [3] k (fun kq v3 w' => ∃ (x3_1 : List Int) (x1000_1 : ByteArray) (x1001_1 : Int) (x1002_1 : Int), Aq (pr_part.l0 kq x3_1 x1000_1 x1001_1 x1002_1 = some (r1, r2, r3, r4)) ∧ Aq (kq ≤ k) ∧ Aq (Kd.R (Kd.int .u8) 5 w' w.heap.size (fun _ => True) v3 x3_1) ∧ Aq (IsS69 w0 w' g x1000_1 x1001_1 x1002_1) ∧ Aq (KeepBut w w' g none) ∧ Aq (Below w0.heap.size w0 w'))
 case atStart => exact ⟨(([] : List Int)), (s0_0), (s0_1), (s0_2), H', ⟨Nat.le_refl _⟩, ⟨by first | exact Kd.R_nil _ _ _ _ _ | exact Kd.N_nil _ _ _ _ _ | exact Kd.V_nil _ _ _ _ _ | exact Kd.Q_nil _ _ _ _ _ | exact Kd.S_nil _ _ _ _ _⟩, ⟨by repeat (with_reducible first | exact HI0.out | apply zn | apply zo | apply zp | apply zq | apply zr | apply zt)⟩, ⟨by repeat (with_reducible first | exact HK.out | apply zm | apply zU | apply zV | apply zW)⟩, ⟨by repeat (with_reducible first | exact HB.out | apply zd | apply zb | apply zc | refine zf ?_ (IsS69.ge HI0.out))⟩⟩
 case round =>
  clear H'
  obtain ⟨x3_1, x1000_1, x1001_1, x1002_1, HA, HK1, HO_3, HI0, HK, HB⟩ := hrel
  cases gk with
  | zero => exact absurd HA.out (by simp [pr_part.l0])
  | succ k1 =>
   have H := HA.out
   clear HA
   simp only [pr_part.l0] at H
   by_cases c2 : x1002_1 < 0
   ·rw [if_pos c2] at H
    have c2b0 : decide (x1002_1 < 0) = true := zk c2
    clear c2
    replace H := zu.mp H
    obtain ⟨⟨t172, t173, t174, t175, t176⟩, A30, H⟩ := H
    replace H : (if t173 = true then (if x3_1.length < 140737488355328 then (pr_part.l0 k1 (x3_1 ++ [t172]) t174 t175 t176) else (none)) else (if (x3_1.length : Int) = 0 then (none) else (some (strOfNums x3_1, t174, t175, t176)))) = some (r1, r2, r3, r4) := H
    have A3 := Aq.mk A30
    clear A30
    by_cases c4 : t173 = true
    ·subst c4
     have H1 : (if x3_1.length < 140737488355328 then (pr_part.l0 k1 (x3_1 ++ [t172]) t174 t175 t176) else (none)) = some (r1, r2, r3, r4) := by rw [if_pos rfl] at H; exact H
     clear H
     have H := H1
     clear H1
     by_cases c5 : x3_1.length < 140737488355328
     ·rw [if_pos c5] at H
      have LMc5 := Aq.mk c5
      clear c5
      obtain ⟨y177, hy177⟩ : ∃ y_ : List Int, y_ = (x3_1 ++ [t172]) := ⟨_, rfl⟩
      replace H : (pr_part.l0 k1 y177 t174 t175 t176) = some (r1, r2, r3, r4) := by first | (rw [hy177]; with_reducible exact H) | (have H2_ := (Option.bind_some _ _).symm.trans H; rw [hy177]; with_reducible exact H2_) | (have H2_ := (Option.bind_some _ _).symm.trans H; with_reducible exact H2_) | with_reducible exact H | (rw [hy177]; exact H) | exact H
      have Ny177 := Aq.mk hy177
      clear hy177
      have H' := Aq.mk H
      clear H
      obtain ⟨HGz6, hgz6⟩ := HI0.out
      have hcz6_0 := cellS69_0 HGz6
      have hcz6_1 := cellS69_1 HGz6
      have hcz6_2 := cellS69_2 HGz6
      have hfz6_0 := za HGz6 0
      have hfz6_1 := za HGz6 1
      have hfz6_2 := za HGz6 2
      clear HGz6 hgz6
      go_wp2_with (first | ((with_reducible refine gate_callee (f := 123) rfl ?_); refine goesL_ (some 13) rfl rfl Tryd.func123 (by kernel_rfl) rfl #[.pointer (some ⟨g, 0, none⟩)] rfl (by (try simp only [zP, zQ, zR]); first | done | rfl | (simp only [zS, zT]; rfl)) ?_; (with_reducible refine (pr_octet.calls k1 g x1000_1 x1001_1 x1002_1 t172 true t174 t175 t176 w0 _ ?side1 ?side2 A3.out).mono ?_); (case side1 => repeat (with_reducible first | exact HI0.out | apply zn | apply zo | apply zp | apply zq | apply zr | apply zt)); (case side2 => repeat (with_reducible first | exact HB.out | apply zd | apply zb | apply zc | refine zf ?_ (IsS69.ge HI0.out))); rintro e w7 ⟨rfl, hi, hb, hk⟩; refine ⟨_, rfl, ?_⟩; have n0_ := Aq.mk (Kd.R_mono (Kd.R_keep (IsS69.apart (show IsS69 w0 _ g x1000_1 x1001_1 x1002_1 from by repeat (with_reducible first | exact HI0.out | apply zn | apply zo | apply zp | apply zq | apply zr | apply zt)) (by (with_reducible repeat (first | apply zC | apply zB | apply zD)); exact HO_3.out) (by decide)) hk (fun _ h => h.2)) (fun _ h => h.1)); have n1_ := Aq.mk (KeepBut.trans (by repeat (with_reducible first | exact HK.out | apply zm | apply zU | apply zV | apply zW)) hk (.inl rfl)); have n2_ := Aq.mk (hb); have n3_ := Aq.mk (hi); clear HO_3; clear HK; clear HB; clear HI0; have HO_3 := n0_; have HK := n1_; have HB := n2_; have HI0 := n3_; clear n0_ n1_ n2_ n3_; (try clear hb); (try clear hb2); (try clear hk); (try clear hi)) | ((with_reducible refine gate_builtin (b := .append) (xs := #[.tmp 18, .tmp 20]) rfl ?_); at_builtin; refine Kd.R_append (Kd.int .u8) w.heap.size rfl (.tmp 18) (.tmp 20) 110 5 (.int .u8 0) 1 rfl Tryd.underlying110 info5 rfl (by decide) (by omega) u3 x3_1 t172 [.int .u8 t172] (fun _ => True) (fun _ => False) rfl rfl ?aP (fun _ hk => hk.elim) ?aF ?aO (Below.refl _ _) ?aS ?aL ?_; (case aP => exact rfl); (case aF => exact (fun _ _ => trivial)); (case aO => exact (by (with_reducible repeat (first | apply zC | apply zB | apply zD)); exact HO_3.out)); (case aS => exact (keep_size (w := w) (g := g) (row := none) (by repeat (with_reducible first | exact HK.out | apply zm | apply zU | apply zV | apply zW)))); (case aL => have := LMc5.out; omega); intro v178 w8 ho hb hg hat; rw [← Ny177.out] at ho; have n0_ := Aq.mk (IsS69.grown (by repeat (with_reducible first | exact HI0.out | apply zn | apply zo | apply zp | apply zq | apply zr | apply zt)) hg (IsS69.own_ne HI0.out HO_3.out (by decide))); have n1_ := Aq.mk (below_weaken (by repeat (with_reducible first | exact HB.out | apply zd | apply zb | apply zc | refine zf ?_ (IsS69.ge HI0.out))) HL.out hb); have n2_ := Aq.mk (KeepBut.trans (by repeat (with_reducible first | exact HK.out | apply zm | apply zU | apply zV | apply zW)) (KeepBut.of_grown hg g) (Kd.R_base2 HO_3.out)); have n3_ := Aq.mk (ho); clear HI0; clear HB; clear HK; clear HO_3; have HI0 := n0_; have HB := n1_; have HK := n2_; have HO179 := n3_; clear n0_ n1_ n2_ n3_; clear ho hb hg hat))
      go_roundg k1
      case measure => have := HK1.out; omega
      case rel => exact ⟨(y177), (t174), (t175), (t176), H', ⟨by have := HK1.out; omega⟩, ⟨by (with_reducible repeat (first | apply zC | apply zB | apply zD)); exact HO179.out⟩, ⟨by repeat (with_reducible first | exact HI0.out | apply zn | apply zo | apply zp | apply zq | apply zr | apply zt)⟩, ⟨by repeat (with_reducible first | exact HK.out | apply zm | apply zU | apply zV | apply zW)⟩, ⟨by repeat (with_reducible first | exact HB.out | apply zd | apply zb | apply zc | refine zf ?_ (IsS69.ge HI0.out))⟩⟩
     ·rw [if_neg c5] at H
      exact absurd H (by simp)
    ·replace c4 := Bool.eq_false_iff.mpr c4
     subst c4
     have H1 : (if (x3_1.length : Int) = 0 then (none) else (some (strOfNums x3_1, t174, t175, t176))) = some (r1, r2, r3, r4) := by rw [if_neg (show ¬ (false = true) by decide)] at H; exact H
     clear H
     have H := H1
     clear H1
     by_cases c9 : (x3_1.length : Int) = 0
     ·rw [if_pos c9] at H
      exact absurd H (by simp)
     ·rw [if_neg c9] at H
      have c9b0 : ((x3_1.length : Int) == 0) = false := ye.mpr c9
      have c9b1 : ((x3_1.length : Int) != 0) = true := yd.mpr c9
      have c9b2 : ¬ (x3_1 = []) := fun h_ => c9 (by rw [h_]; rfl)
      simp only [zH, zI] at H
      obtain ⟨rfl, rfl, rfl, rfl⟩ := H
      obtain ⟨HGz17, hgz17⟩ := HI0.out
      have hcz17_0 := cellS69_0 HGz17
      have hcz17_1 := cellS69_1 HGz17
      have hcz17_2 := cellS69_2 HGz17
      have hfz17_0 := za HGz17 0
      have hfz17_1 := za HGz17 1
      have hfz17_2 := za HGz17 2
      clear HGz17 hgz17
      go_wp2_with (first | ((with_reducible refine gate_callee (f := 123) rfl ?_); refine goesL_ (some 13) rfl rfl Tryd.func123 (by kernel_rfl) rfl #[.pointer (some ⟨g, 0, none⟩)] rfl (by (try simp only [zP, zQ, zR]); first | done | rfl | (simp only [zS, zT]; rfl)) ?_; (with_reducible refine (pr_octet.calls k1 g x1000_1 x1001_1 x1002_1 t172 false t174 t175 t176 w0 _ ?side1 ?side2 A3.out).mono ?_); (case side1 => repeat (with_reducible first | exact HI0.out | apply zn | apply zo | apply zp | apply zq | apply zr | apply zt)); (case side2 => repeat (with_reducible first | exact HB.out | apply zd | apply zb | apply zc | refine zf ?_ (IsS69.ge HI0.out))); rintro e w18 ⟨rfl, hi, hb, hk⟩; refine ⟨_, rfl, ?_⟩; have n0_ := Aq.mk (Kd.R_mono (Kd.R_keep (IsS69.apart (show IsS69 w0 _ g x1000_1 x1001_1 x1002_1 from by repeat (with_reducible first | exact HI0.out | apply zn | apply zo | apply zp | apply zq | apply zr | apply zt)) (by (with_reducible repeat (first | apply zC | apply zB | apply zD)); exact HO_3.out) (by decide)) hk (fun _ h => h.2)) (fun _ h => h.1)); have n1_ := Aq.mk (KeepBut.trans (by repeat (with_reducible first | exact HK.out | apply zm | apply zU | apply zV | apply zW)) hk (.inl rfl)); have n2_ := Aq.mk (hb); have n3_ := Aq.mk (hi); clear HO_3; clear HK; clear HB; clear HI0; have HO_3 := n0_; have HK := n1_; have HB := n2_; have HI0 := n3_; clear n0_ n1_ n2_ n3_; (try clear hb); (try clear hb2); (try clear hk); (try clear hi); obtain ⟨Ao19, co19, eo19⟩ := yi HO_3.out; subst eo19; have hcv20 := own_string (P := Tryd.prog) Tryd.underlying110 Tryd.underlying5 Tryd.underlying9 (Kd.own_of_R HO_3.out)))
      go_ret
      exact ⟨by first | rfl | (simp [yl, ym] <;> rfl) | (simp [*, yl, ym] <;> rfl), by repeat (with_reducible first | exact HI0.out | apply zn | apply zo | apply zp | apply zq | apply zr | apply zt), by repeat (with_reducible first | exact HB.out | apply zd | apply zb | apply zc | refine zf ?_ (IsS69.ge HI0.out)), by repeat (with_reducible first | exact HK.out | apply zm | apply zU | apply zV | apply zW)⟩
   ·rw [if_neg c2] at H
    exact absurd H (by simp)
end Go.Proofs.YtmnfjbmhlabdaaaDoor.Pr
